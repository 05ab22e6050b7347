/- ModuleOk of both sides: by the abstract machine. -/
import Derived.Test.YtghljnfbbaklnaaGreatGetModuleAD
namespace Go.Proofs.YtghljnfbbaklnaaGreat
open Go.RowKit
set_option maxRecDepth 100000
def rexN (s:ByteArray):Bool:=parI s&&decide (s.size≤200)
theorem zm16 {s:ByteArray}(hs:s.size≤1048576):Fine (rexR s):=by
 unfold rexR
 split
 ·exact (zy8 hs).1
 ·exact Fine.zero
theorem zo21 {s:ByteArray}(hs:s.size≤1048576):Ctr Tryz.prog 108 [.c (.v (.string s))] [] (.c (.v (.bool (rexN s)))) []:=by
 have hc:=ze12 hs
 have hf:=zm16 hs
 generalize rexR s=e at hc hf
 cases hf with
 | mk k t l hk ht hl2 =>
 refine zi1 Tryz.func108 rfl rfl ?_
 unfold rexN
 generalize parI s=b at *
 repeat' (first|(apply f_wo;first|(apply f_gs;refine n_sk ?_)|(apply f_mv;first|(refine zs1 ?_ ?_<;>intro hG<;>(try cases hG))|refine zt (v:=.c _) ?_|refine zt (v:=.tu _) ?_)|(apply f_as;refine zu (v:=.c _) ?_)|(apply f_ca;refine zo3 hc ?_)|(apply f_bi;refine zj6 ?_)|(apply f_st;refine n_st ?_)|(apply zk17;refine zb5 ?_)|(apply f_pk;refine zr1 (v:=.c _) ?_)|(apply f_ex;first|refine zs4 (v:=.c _) ?_|refine zh1 ?_)|refine n_al ?_)|(apply f_w;first|refine zo ?_|refine zc ?_)|refine za fun C=>?_|refine zd ?_)
 all_goals
  (first|refine zi ?_|skip);refine ret0 rfl zy ⟨?_,rfl⟩;refine congrArg (fun s=>AV.c (AC.v (Value.bool s))) ?_
  first
   | rfl
   | (simp only [Bool.true_and];(rw [Bool.eq_iff_iff];(try simp only [Bool.and_eq_true,Bool.or_eq_true,Bool.not_eq_true',decide_eq_true_iff,decide_eq_false_iff_not,beq_iff_eq,Bool.and_eq_false_iff,Bool.or_eq_false_iff,bne_iff_ne,ne_eq,Bool.true_eq_false,Bool.false_eq_true,true_iff,false_iff,iff_true,iff_false] at *);first|omega|(simp at *;omega)))
theorem l8Rex_c {s:ByteArray}(hs:s.size≤1048576):Ctr Tryz.prog 95 [.c (.v (.string s))] [] (.c (.v (.bool (rexN s)))) []:=by
 have hc:=zf12 hs
 have hf:=zm16 hs
 generalize rexR s=e at hc hf
 cases hf with
 | mk k t l hk ht hl2 =>
 refine zi1 Tryz.func95 rfl rfl ?_
 unfold rexN
 generalize parI s=b at *
 repeat' (first|(apply f_wo;first|(apply f_gs;refine n_sk ?_)|(apply f_mv;first|(refine zs1 ?_ ?_<;>intro hG<;>(try cases hG))|refine zt (v:=.c _) ?_|refine zt (v:=.tu _) ?_)|(apply f_as;refine zu (v:=.c _) ?_)|(apply f_ca;refine zo3 hc ?_)|(apply f_bi;refine zj6 ?_)|(apply f_st;refine n_st ?_)|(apply zk17;refine zb5 ?_)|(apply f_pk;refine zr1 (v:=.c _) ?_)|(apply f_ex;first|refine zs4 (v:=.c _) ?_|refine zh1 ?_)|refine n_al ?_)|(apply f_w;first|refine zo ?_|refine zc ?_)|refine za fun C=>?_|refine zd ?_)
 all_goals
  (first|refine zi ?_|skip);refine ret0 rfl zy ⟨?_,rfl⟩;refine congrArg (fun s=>AV.c (AC.v (Value.bool s))) ?_
  first
   | rfl
   | (simp only [Bool.true_and];(rw [Bool.eq_iff_iff];(try simp only [Bool.and_eq_true,Bool.or_eq_true,Bool.not_eq_true',decide_eq_true_iff,decide_eq_false_iff_not,beq_iff_eq,Bool.and_eq_false_iff,Bool.or_eq_false_iff,bne_iff_ne,ne_eq,Bool.true_eq_false,Bool.false_eq_true,true_iff,false_iff,iff_true,iff_false] at *);first|omega|(simp at *;omega)))
def rexNE (e:E):Bool:=rexN (strB e)
def insE:E→Bool
 | .agg [.int _ x,.int _ n]=>insOkS x n
 | _=>false
def fnOkE (n i:Nat):E→Bool
 | .agg [.int _ pp,.lst _ _ _ _ code]=>inR pp 0 4&&!(decide (n≤i+3)&&!(pp==0))&&inR code.length 1 3000&&code.all insE
 | _=>false
def fnsOk (n:Nat):Nat→List E→Bool
 | _,[]=>true
 | i,f :: r=>fnOkE n i f&&fnsOk n (i+1) r
def modHead (l0 l1:List E)(x2 x3:Int)(l4:List E):Bool:=decide (l0.length≤400)&&decide (l1.length≤100)&&inR x2 0 400&&inR x3 0 400&&inR l4.length 3 9
def modOkL (l0 l1:List E)(x2 x3:Int)(l4:List E):Bool:=modHead l0 l1 x2 x3 l4&&(l0.all valE&&l1.all rexNE&&fnsOk l4.length 0 l4)
def modOkE:E→Bool
 | .agg [.lst _ _ _ _ l0,.lst _ _ _ _ l1,.int _ x2,.int _ x3,.lst _ _ _ _ l4]=>modOkL l0 l1 x2 x3 l4
 | _=>false
theorem clo1_c {x:E}(hx:x.Ty Tryz.prog 75):Ctr Tryz.prog 104 [.ag (acE x)] [] (.c (.v (.bool (!(valE x))))) []:=by
 have hc:=zn17 hx
 obtain⟨x0,x1,x2,rfl,-⟩:=zk2 hx
 refine zi1 Tryz.func104 rfl rfl ?_
 repeat' (first|(apply f_wo;first|(apply f_as;refine zu (v:=.c _) ?_)|(apply f_ld;refine zq2 ?_)|(apply f_ca;refine zu1 hc ?_)|(apply f_no;refine za2 ?_)|refine n_bo ?_)|(apply f_w;first|refine zo ?_|refine zc ?_)|refine za fun C=>?_|refine zd ?_)
 refine zi ?_;refine ret0 rfl zy ⟨?_,rfl⟩
 rfl
theorem clo2_c {s:ByteArray}(hs:s.size≤1048576):Ctr Tryz.prog 107 [.c (.v (.string s))] [] (.c (.v (.bool (!(rexN s))))) []:=by
 have hc:=zo21 hs
 refine zi1 Tryz.func107 rfl rfl ?_
 repeat' (first|(apply f_wo;first|(apply f_mv;refine zt (v:=.c _) ?_)|(apply f_as;refine zu (v:=.c _) ?_)|(apply f_ca;refine zu1 hc ?_)|(apply f_no;refine za2 ?_))|(apply f_w;first|refine zo ?_|refine zc ?_)|refine za fun C=>?_|refine zd ?_)
 refine zi ?_;refine ret0 rfl zy ⟨?_,rfl⟩
 rfl
theorem clo3_c {x:E}(hx:x.Ty Tryz.prog 82):Ctr Tryz.prog 110 [.ag (acE x)] [] (.c (.v (.bool (!(insE x))))) []:=by
 obtain⟨x0,x1,rfl,-⟩:=zz2 hx
 refine zi1 Tryz.func110 rfl rfl ?_
 repeat' (first|(apply f_wo;first|(apply f_as;refine zu (v:=.c _) ?_)|(apply f_ld;refine zq2 ?_)|(apply f_ca;refine zu1 ((zb18 _ _)) ?_)|(apply f_no;refine za2 ?_)|refine n_bo ?_)|(apply f_w;first|refine zo ?_|refine zc ?_)|refine za fun C=>?_|refine zd ?_)
 refine zi ?_;refine ret0 rfl zy ⟨?_,rfl⟩
 rfl
theorem any_not {p:E→Bool}(l:List E):(l.any fun x=>!(p x))=!(l.all p):=by
 rw [List.not_all_eq_any_not]
theorem strsz {l:List E}(hl:∀x∈l,x.Ty Tryz.prog 9)(hz:E.szL l≤1048576):∀x∈l,(strB x).size≤1048576:=fun x hx=>by
 have:=E.szL_mem hx
 obtain⟨s,rfl,-⟩:=(hl x hx).str_ Tryz.underlying9
 simp only [E.sz] at this
 show s.size≤_;omega
set_option maxHeartbeats 8000000 in
theorem zh12 {e:E}(he:e.Ty Tryz.prog 33)(hsz:e.sz≤1048576):Ctr Tryz.prog 37 [.ag (acE e)] [] (.c (.v (.bool (modOkE e)))) []:=by
 obtain⟨x0A,x0c,l0,x1A,x1c,l1,x2,x3,x4A,x4c,l4,rfl,⟨a0,ka0⟩,⟨a1,ka1⟩,-,-,⟨a4,ka4⟩,-⟩:=zn2 he
 simp only [E.sz,E.szL] at hsz
 have hl0:l0.length≤1048576:=by omega
 have hl1:l1.length≤1048576:=by omega
 have hl4:l4.length≤1048576:=by omega
 have hs1:=strsz a1 (by omega)
 show Ctr _ _ _ _ (.c (.v (.bool (modOkL l0 l1 x2 x3 l4)))) _
 have c1:=con0Val_c a0 ka0 (by omega) (fun x=>!(valE x)) 104 fun x hx=>clo1_c (a0 x hx)
 have c2:=zj16 a1 ka1 (by omega) (fun x=>!(rexNE x)) 107 fun x hx=>clo2_c (hs1 x hx)
 rw [any_not] at c1 c2
 refine zi1 Tryz.func37 rfl rfl ?_
 unfold modOkL
 cases hh:modHead l0 l1 x2 x3 l4 with
 | false =>
  unfold modHead at hh
  repeat' (first|(apply f_wo;first|(apply f_gs;refine n_sk ?_)|(apply f_mv;(refine zs1 ?_ ?_<;>intro hG<;>(try cases hG)))|(apply f_as;refine zu (v:=.c _) ?_)|(apply f_fa;refine n_fa ?_)|(apply f_ld;refine zn1 ?_)|(apply f_ca;refine zu1 ((zw4 _ _ _)) ?_)|(apply f_bi;refine zl2 ?_)|(apply zi4;refine zh2 ?_)|(apply f_no;refine za2 ?_)|(apply f_pk;refine zr1 (v:=.c _) ?_)|refine n_bo ?_)|(apply f_w;first|refine zo ?_|refine zc ?_)|refine za fun C=>?_|refine zd ?_)
  all_goals first
   | refine zq rfl ?_
   | refine zn (by rfl) (fun hC=>?_) fun hC=>by exfalso;clear c1 c2 a0 a1 a4 ka0 ka1 ka4 hs1 he;simp only [inR,Bool.and_eq_true,Bool.and_eq_false_iff,Bool.not_eq_true',Bool.not_eq_false',decide_eq_true_iff,decide_eq_false_iff_not] at *;omega
  all_goals
   repeat' (first|(apply f_wo;(apply f_as;refine zu (v:=.c _) ?_))|(apply f_w;first|refine zo ?_|refine zc ?_)|refine za fun C=>?_|refine zd ?_)
   refine zi ?_;refine ret0 rfl zy ⟨?_,rfl⟩
   rfl
 | true =>
  simp only [Bool.true_and]
  have hh2:=hh
  unfold modHead at hh2
  simp only [Bool.and_eq_true,decide_eq_true_iff] at hh2
  obtain⟨⟨⟨⟨q0,q1⟩,q2⟩,q3⟩,q4⟩:=hh2
  have w2:=zw4 x2 0 400
  have w3:=zw4 x3 0 400
  have w4:=zw4 (l4.length:Int) 3 9
  rw [q2] at w2
  rw [q3] at w3
  rw [q4] at w4
  clear hh
  repeat' (first|(apply f_wo;first|(apply f_gs;refine n_sk ?_)|(apply f_mv;(refine zs1 ?_ ?_<;>intro hG<;>(try cases hG)))|(apply f_as;refine zu (v:=.c _) ?_)|(apply f_fa;refine n_fa ?_)|(apply f_ld;refine zn1 ?_)|(apply f_ca;first|refine zu1 w2 ?_|refine zu1 w3 ?_|refine zu1 w4 ?_)|(apply f_bi;refine zl2 ?_)|(apply zi4;refine zh2 ?_)|(apply f_no;refine za2 ?_)|(apply f_pk;refine zr1 (v:=.c _) ?_)|refine n_bo ?_)|(apply f_w;first|refine zo ?_|refine zc ?_)|refine za fun C=>?_|refine zd ?_)
  all_goals first
   | (exfalso;simp only [decide_eq_true_iff] at hG;omega)
   | skip
  refine zr rfl ?_
  cases hv:l0.all valE with
  | false =>
   rw [hv] at c1
   repeat' (first|(apply f_wo;first|(apply f_gs;refine n_sk ?_)|(apply f_mv;(refine zs1 ?_ ?_<;>intro hG<;>(try cases hG)))|(apply f_as;refine zu (v:=.c _) ?_)|(apply f_fa;refine n_fa ?_)|(apply f_ld;refine zn1 ?_)|(apply f_ca;refine zu1 c1 ?_)|(apply f_pk;refine zr1 (v:=.c _) ?_))|(apply f_w;first|refine zo ?_|refine zc ?_)|refine za fun C=>?_|refine zd ?_|refine zk ?_|refine zq rfl ?_)
   refine zi ?_;refine ret0 rfl zy ⟨?_,rfl⟩
   rfl
  | true =>
  rw [hv] at c1
  cases hv2:l1.all rexNE with
  | false =>
   rw [hv2] at c2
   repeat' (first|(apply f_wo;first|(apply f_mv;(refine zs1 ?_ ?_<;>intro hG<;>(try cases hG)))|(apply f_as;refine zu (v:=.c _) ?_)|(apply f_fa;refine n_fa ?_)|(apply f_ld;refine zn1 ?_)|(apply f_ca;first|refine zu1 c1 ?_|refine zu1 c2 ?_)|(apply f_pk;refine zr1 (v:=.c _) ?_))|(apply f_w;first|refine zo ?_|refine zc ?_)|refine za fun C=>?_|refine zd ?_|refine zk ?_|refine zq rfl ?_)
   refine zi ?_;refine ret0 rfl zy ⟨?_,rfl⟩
   rfl
  | true =>
  rw [hv2] at c2
  simp only [Bool.true_and]
  repeat' (first|(apply f_wo;first|(apply f_mv;first|(refine zs1 ?_ ?_<;>intro hG<;>(try cases hG))|refine zt (v:=.c _) ?_)|(apply f_fa;refine n_fa ?_)|(apply f_ld;refine zn1 ?_)|(apply f_ca;first|refine zu1 c1 ?_|refine zu1 c2 ?_)|(apply f_bi;refine zl2 ?_)|(apply f_pk;refine zr1 (v:=.c _) ?_))|(apply f_w;first|refine zo ?_|refine zc ?_)|refine za fun C=>?_|refine zd ?_|refine zg ?_|refine zk ?_|refine zr rfl ?_)
  clear c1 c2 w2 w3 w4 hs1
  generalize htot:fnsOk l4.length 0 l4=tot
  refine zt1 (fun k:Nat=>⟨tmsF [(1,.c (.pt 1 0)),(43,.c (.ro l4.length 2 (acL l4))),(44,.c (.v (.int .i64 l4.length))),(45,.c (.v (.int .i64 k)))],hpsF [(1,1,⟨33,0,0,true,[.ro l0.length 3 (acL l0),.ro l1.length 1 (acL l1),.v (.int .i64 x2),.v (.int .i64 x3),.ro l4.length 2 (acL l4)]⟩)],0,[1],78⟩)
   (fun N k=>k+N=l4.length∧fnsOk l4.length k (l4.drop k)=tot) l4.length 0 ⟨by omega,htot⟩ ?_ ?_
  ·(refine zk1 _ _ rfl rfl ?_ ?_<;>(repeat' (first|exact TmOk.nil|exact RwOk.nil|refine TmOk.cons ?_ ?_|refine RwOk.cons ?_ ?_|rfl|(refine rnV_id' rfl ?_;exact byc)|(refine zo1 ?_;first|rfl|omega|(rw [za1 (by omega) (by omega)];omega))|(refine zv rfl ?_;exact byc)|exact zg2 rfl rfl|(refine zp1 (by rfl) (by rfl) ?_ ?_<;>exact byc)|(refine rw_rn' rfl rfl ?_;simp;done))))
  rintro N k ⟨hN,ht⟩
  repeat' (first|(apply f_wo;(apply zw2;refine zf1 ?_))|(apply f_w;first|refine zo ?_|refine zc ?_)|refine za fun C=>?_|refine zd ?_)
  refine zn (by rfl) (fun hk1=>?_) fun hk1=>?_
  ·have hk':k<l4.length:=by simpa using hk1
   obtain⟨x,hx⟩:∃x,l4[k]? = some x:=⟨_,List.getElem?_eq_getElem hk'⟩
   have hd1:l4.drop k=x :: l4.drop (k+1):=by rw [List.drop_eq_getElem_cons hk'];congr 1;rw [List.getElem?_eq_getElem hk'] at hx;exact Option.some.inj hx
   rw [hd1] at ht
   have hxm:=List.mem_of_getElem? hx
   have hxz:=E.szL_mem hxm
   have hgk:=ka4
   obtain⟨pp,pA,pc,code,rfl,-,⟨hc,hck⟩,-⟩:=za3 (a4 x hxm)
   simp only [E.sz,E.szL] at hxz
   have c3:=con0Ins_c hc hck (by omega) (fun x=>!(insE x)) 110 fun x hx=>clo3_c (hc x hx)
   rw [any_not] at c3
   have hst:fnOkE l4.length k (E.agg [E.int .i64 pp,E.lst 2 82 pA pc code])=(inR pp 0 4&&!(decide (l4.length≤k+3)&&!(pp==0))&&inR code.length 1 3000&&code.all insE):=rfl
   unfold fnsOk at ht
   rw [hst] at ht
   repeat' (first|(apply f_wo;first|(apply f_gs;refine n_sk ?_)|(apply f_mv;first|(refine zs1 ?_ ?_<;>intro hG<;>(try cases hG))|refine zt (v:=.c _) ?_)|(apply f_as;refine zu (v:=.c _) ?_)|(apply f_fa;refine n_fa ?_)|(apply f_ld;first|refine zn1 ?_|refine zg4 ?_)|(apply f_ca;first|refine zu1 ((zw4 _ _ _)) ?_|refine zu1 c3 ?_)|(apply f_bi;refine zl2 ?_)|(apply f_st;refine n_st ?_)|(apply f_ia;refine n_ix ?_)|(apply zh4;refine zs2 ?_)|(apply zo9;refine zp3 ?_)|(apply zb2;refine zx ?_)|(apply f_no;refine za2 ?_)|(apply f_pk;refine zr1 (v:=.c _) ?_)|(apply f_bb;refine zh3 ?_)|refine n_al ?_)|(apply f_w;first|refine zo ?_|refine zc ?_)|refine za fun C=>?_|refine zd ?_|refine zg ?_|refine zk ?_|(refine zn (by rfl) ?_ ?_<;>intro hC<;>(try cases hC)))
   all_goals first
    | (refine zi ?_;refine ret0 rfl zy ⟨?_,rfl⟩
       rw [←ht]
       clear c3 a0 a1 a4 ka0 ka1 ka4 he hc hck hgk hst ht
       simp only [inR,Bool.not_eq_true',Bool.not_eq_false',bne_iff_ne,ne_eq,bne_eq_false_iff_eq,decide_eq_true_iff,decide_eq_false_iff_not,Bool.and_eq_true,Bool.and_eq_false_iff] at *
       first
        | (simp_all;done)
        | (rw [show (decide ((0:Int)≤pp)&&decide (pp≤4))=false by simp;omega];rfl)
        | (simp [*];omega))
    | skip
   all_goals first
    | (refine zi ?_;refine ret0 rfl zy ⟨?_,rfl⟩
       have hD:code.all insE=false:=by simpa using hC
       rw [←ht,hD,Bool.and_false,Bool.false_and];done)
    | (refine⟨N-1,k+1,by omega,⟨by omega,?_⟩,?_⟩
       ·have hD:code.all insE=true:=by simpa using hC
        have hA:(inR pp 0 4&&!(decide (l4.length≤k+3)&&!(pp==0))&&inR code.length 1 3000)=true:=by
         clear c3 a0 a1 a4 ka0 ka1 ka4 he hc hck hgk hst ht hD
         simp only [inR,Bool.not_eq_true',Bool.not_eq_false',bne_iff_ne,ne_eq,bne_eq_false_iff_eq,decide_eq_true_iff,decide_eq_false_iff_not,Bool.and_eq_true,Bool.and_eq_false_iff,beq_iff_eq,beq_eq_false_iff_ne] at *
         omega
        rw [←ht,hD,hA];rfl
       ·(refine zk1 _ _ rfl rfl ?_ ?_<;>(repeat' (first|exact TmOk.nil|exact RwOk.nil|refine TmOk.cons ?_ ?_|refine RwOk.cons ?_ ?_|rfl|(refine rnV_id' rfl ?_;exact byc)|(refine zo1 ?_;first|rfl|omega|(rw [za1 (by omega) (by omega)];omega))|(refine zv rfl ?_;exact byc)|exact zg2 rfl rfl|(refine zp1 (by rfl) (by rfl) ?_ ?_<;>exact byc)|(refine rw_rn' rfl rfl ?_;simp;done)))))
  ·have hk':¬k<l4.length:=by simpa using hk1
   obtain rfl:k=l4.length:=by omega
   rw [List.drop_length] at ht
   repeat' (first|(apply f_wo;(apply f_as;refine zu (v:=.c _) ?_))|(apply f_w;first|refine zo ?_|refine zc ?_)|refine za fun C=>?_|refine zd ?_|refine zw ?_)
   refine zi ?_;refine ret0 rfl zy ⟨?_,rfl⟩
   rw [←ht];rfl
def fnS:E→Bool
 | .agg [.int _ pp,.lst _ _ _ _ code]=>code.all insE&&(inR pp 0 4&&inR code.length 1 3000)
 | _=>false
theorem l18Fn_c {f:E}(hf:f.Ty Tryz.prog 79)(hsz:f.sz≤1048576):Ctr Tryz.prog 96 [.ag (acE f)] [] (.c (.v (.bool (fnS f)))) []:=by
 obtain⟨pp,pA,pc,code,rfl,-,⟨hc,hck⟩,-⟩:=za3 hf
 simp only [E.sz,E.szL] at hsz
 have hlen:code.length≤1048576:=by omega
 show Ctr _ _ _ _ (.c (.v (.bool (code.all insE&&(inR pp 0 4&&inR code.length 1 3000))))) _
 refine zi1 Tryz.func96 rfl rfl ?_
 repeat' (first|(apply f_wo;first|(apply f_as;refine zu (v:=.c _) ?_)|refine n_bo ?_)|(apply f_w;first|refine zo ?_|refine zc ?_)|refine za fun C=>?_|refine zd ?_|refine zg ?_)
 refine zt1 (fun k:Nat=>⟨tmsF [(1,.c (.pt 1 0)),(3,.c (.v (.int .i64 k)))],hpsF [(1,1,⟨79,0,0,true,[.v (.int .i64 pp),.ro code.length 2 (acL code)]⟩)],0,[1],27⟩)
  (fun N k=>k+N=code.length∧∀j y,j<k→code[j]? = some y→insE y=true) code.length 0 ⟨by omega,by omega⟩ ?_ ?_
 ·(refine zk1 _ _ rfl rfl ?_ ?_<;>(repeat' (first|exact TmOk.nil|exact RwOk.nil|refine TmOk.cons ?_ ?_|refine RwOk.cons ?_ ?_|rfl|(refine rnV_id' rfl ?_;exact byc)|(refine zo1 ?_;first|rfl|omega|(rw [za1 (by omega) (by omega)];omega))|(refine zv rfl ?_;exact byc)|exact zg2 rfl rfl|(refine zp1 (by rfl) (by rfl) ?_ ?_<;>exact byc)|(refine rw_rn' rfl rfl ?_;simp;done))))
 rintro N k ⟨hN,hno⟩
 repeat' (first|(apply f_wo;first|(apply f_mv;refine zt (v:=.c _) ?_)|(apply f_fa;refine n_fa ?_)|(apply f_ld;refine zn1 ?_)|(apply f_bi;refine zl2 ?_)|(apply zw2;refine zf1 ?_))|(apply f_w;first|refine zo ?_|refine zc ?_)|refine za fun C=>?_|refine zd ?_)
 refine zn (by rfl) (fun h1=>?_) fun h1=>?_
 ·have hk':k<code.length:=by simpa using h1
  obtain⟨x,hx⟩:∃x,code[k]? = some x:=⟨_,List.getElem?_eq_getElem hk'⟩
  obtain⟨y0,y1,rfl,-⟩:=zz2 (hc x (List.mem_of_getElem? hx))
  have hie:insE (E.agg [E.int .i64 y0,E.int .i64 y1])=insOkS y0 y1:=rfl
  have hgk:=hck
  cases hb:insE (E.agg [E.int .i64 y0,E.int .i64 y1]) with
  | false =>
   rw [hie] at hb
   have ci:=zn11 y0 y1
   rw [hb] at ci
   repeat' (first|(apply f_wo;first|(apply f_mv;refine zt (v:=.c _) ?_)|(apply f_as;refine zu (v:=.c _) ?_)|(apply f_fa;refine n_fa ?_)|(apply f_ld;first|refine zn1 ?_|refine zg4 ?_)|(apply f_ca;refine zu1 ci ?_)|(apply f_ia;refine n_ix ?_)|(apply f_no;refine za2 ?_))|(apply f_w;first|refine zo ?_|refine zc ?_)|refine za fun C=>?_|refine zd ?_|refine zg ?_|refine zk ?_|refine zq rfl ?_)
   refine zi ?_;refine ret0 rfl zy ⟨?_,rfl⟩
   rw [zv19 hx (by rw [←hb];rfl)];rfl
  | true =>
   rw [hie] at hb
   have ci:=zn11 y0 y1
   rw [hb] at ci
   repeat' (first|(apply f_wo;first|(apply f_mv;refine zt (v:=.c _) ?_)|(apply f_as;refine zu (v:=.c _) ?_)|(apply f_fa;refine n_fa ?_)|(apply f_ld;first|refine zn1 ?_|refine zg4 ?_)|(apply f_ca;refine zu1 ci ?_)|(apply f_ia;refine n_ix ?_)|(apply zb2;refine zx ?_)|(apply f_no;refine za2 ?_))|(apply f_w;first|refine zo ?_|refine zc ?_)|refine za fun C=>?_|refine zd ?_|refine zg ?_|refine zk ?_|refine zr rfl ?_)
   refine⟨N-1,k+1,by omega,⟨by omega,fun j z hj hz=>?_⟩,?_⟩
   ·by_cases e:j=k
    ·rw [e,hx] at hz;injection hz with hz;subst hz;exact hb
    ·exact hno j z (by omega) hz
   ·(refine zk1 _ _ rfl rfl ?_ ?_<;>(repeat' (first|exact TmOk.nil|exact RwOk.nil|refine TmOk.cons ?_ ?_|refine RwOk.cons ?_ ?_|rfl|(refine rnV_id' rfl ?_;exact byc)|(refine zo1 ?_;first|rfl|omega|(rw [za1 (by omega) (by omega)];omega))|(refine zv rfl ?_;exact byc)|exact zg2 rfl rfl|(refine zp1 (by rfl) (by rfl) ?_ ?_<;>exact byc)|(refine rw_rn' rfl rfl ?_;simp;done))))
 ·have hk':¬k<code.length:=by simpa using h1
  rw [zj14 (p:=insE) fun j y hj hy=>hno j y (by omega) hy,Bool.true_and]
  repeat' (first|(apply f_wo;first|(apply f_gs;refine n_sk ?_)|(apply f_mv;(refine zs1 ?_ ?_<;>intro hG<;>(try cases hG)))|(apply f_as;refine zu (v:=.c _) ?_)|(apply f_fa;refine n_fa ?_)|(apply f_ld;refine zn1 ?_)|(apply f_ca;refine zu1 ((zx10 _ _ _)) ?_)|(apply f_bi;refine zl2 ?_)|(apply f_pk;refine zr1 (v:=.c _) ?_))|(apply f_w;first|refine zo ?_|refine zc ?_)|refine za fun C=>?_|refine zd ?_|refine zw ?_)
  all_goals
   (first|refine zi ?_|skip);refine ret0 rfl zy ⟨?_,rfl⟩;refine congrArg (fun s=>AV.c (AC.v (Value.bool s))) ?_
   first|rfl|simp_all
theorem fnOk_S {n i:Nat}{pp:Int}{A:Option Addr}{c:Nat}{code:List E}:fnOkE n i (E.agg [E.int .i64 pp,E.lst 2 82 A c code])=(fnS (E.agg [E.int .i64 pp,E.lst 2 82 A c code])&&!(decide (n≤i+3)&&!(pp==0))):=by
 show (inR pp 0 4&&!(decide (n≤i+3)&&!(pp==0))&&inR code.length 1 3000&&code.all insE)=(code.all insE&&(inR pp 0 4&&inR code.length 1 3000)&&!(decide (n≤i+3)&&!(pp==0)))
 cases inR pp 0 4<;>cases inR code.length 1 3000<;>cases code.all insE<;>simp
set_option maxHeartbeats 8000000 in
theorem zi12 {e:E}(he:e.Ty Tryz.prog 33)(hsz:e.sz≤1048576):Ctr Tryz.prog 29 [.ag (acE e)] [] (.c (.v (.bool (modOkE e)))) []:=by
 obtain⟨x0A,x0c,l0,x1A,x1c,l1,x2,x3,x4A,x4c,l4,rfl,⟨a0,ka0⟩,⟨a1,ka1⟩,-,-,⟨a4,ka4⟩,-⟩:=zn2 he
 simp only [E.sz,E.szL] at hsz
 have hl0:l0.length≤1048576:=by omega
 have hl1:l1.length≤1048576:=by omega
 have hl4:l4.length≤1048576:=by omega
 have hs1:=strsz a1 (by omega)
 show Ctr _ _ _ _ (.c (.v (.bool (modOkL l0 l1 x2 x3 l4)))) _
 unfold modOkL
 refine zi1 Tryz.func29 rfl rfl ?_
 repeat' (first|(apply f_wo;first|(apply f_as;refine zu (v:=.c _) ?_)|refine n_bo ?_)|(apply f_w;first|refine zo ?_|refine zc ?_)|refine za fun C=>?_|refine zd ?_|refine zg ?_)
 refine zt1 (fun k:Nat=>⟨tmsF [(1,.c (.pt 1 0)),(3,.c (.v (.int .i64 k)))],hpsF [(1,1,⟨33,0,0,true,[.ro l0.length 3 (acL l0),.ro l1.length 1 (acL l1),.v (.int .i64 x2),.v (.int .i64 x3),.ro l4.length 2 (acL l4)]⟩)],0,[1],91⟩)
  (fun N k=>k+N=l0.length∧∀j y,j<k→l0[j]? = some y→valE y=true) l0.length 0 ⟨by omega,by omega⟩ ?_ ?_
 ·(refine zk1 _ _ rfl rfl ?_ ?_<;>(repeat' (first|exact TmOk.nil|exact RwOk.nil|refine TmOk.cons ?_ ?_|refine RwOk.cons ?_ ?_|rfl|(refine rnV_id' rfl ?_;exact byc)|(refine zo1 ?_;first|rfl|omega|(rw [za1 (by omega) (by omega)];omega))|(refine zv rfl ?_;exact byc)|exact zg2 rfl rfl|(refine zp1 (by rfl) (by rfl) ?_ ?_<;>exact byc)|(refine rw_rn' rfl rfl ?_;simp;done))))
 rintro N k ⟨hN,hno⟩
 repeat' (first|(apply f_wo;first|(apply f_mv;refine zt (v:=.c _) ?_)|(apply f_fa;refine n_fa ?_)|(apply f_ld;refine zn1 ?_)|(apply f_bi;refine zl2 ?_)|(apply zw2;refine zf1 ?_))|(apply f_w;first|refine zo ?_|refine zc ?_)|refine za fun C=>?_|refine zd ?_)
 refine zn (by rfl) (fun h1=>?_) fun h1=>?_
 ·have hk':k<l0.length:=by simpa using h1
  obtain⟨x,hx⟩:∃x,l0[k]? = some x:=⟨_,List.getElem?_eq_getElem hk'⟩
  have hxt:=a0 x (List.mem_of_getElem? hx)
  have ci:=zo17 hxt
  have hgk:=ka0
  cases hb:valE x with
  | false =>
   rw [hb] at ci
   have hf:=zv19 hx hb
   rw [hf,Bool.false_and,Bool.false_and,Bool.and_false]
   clear hf hno
   obtain⟨v0,v1,v2,rfl,-⟩:=zk2 hxt
   repeat' (first|(apply f_wo;first|(apply f_mv;refine zt (v:=.c _) ?_)|(apply f_as;refine zu (v:=.c _) ?_)|(apply f_fa;refine n_fa ?_)|(apply f_ld;first|refine zn1 ?_|refine zg4 ?_)|(apply f_ca;refine zu1 ci ?_)|(apply f_ia;refine n_ix ?_)|(apply f_no;refine za2 ?_))|(apply f_w;first|refine zo ?_|refine zc ?_)|refine za fun C=>?_|refine zd ?_|refine zg ?_|refine zk ?_|refine zq rfl ?_)
   refine zi ?_;refine ret0 rfl zy ⟨?_,rfl⟩
   rfl
  | true =>
   rw [hb] at ci
   have hno2:∀j z,j<k+1→l0[j]? = some z→valE z=true:=fun j z hj hz=>by
    by_cases e:j=k
    ·rw [e,hx] at hz;injection hz with hz;subst hz;exact hb
    ·exact hno j z (by omega) hz
   clear hno hb
   obtain⟨v0,v1,v2,rfl,-⟩:=zk2 hxt
   repeat' (first|(apply f_wo;first|(apply f_mv;refine zt (v:=.c _) ?_)|(apply f_as;refine zu (v:=.c _) ?_)|(apply f_fa;refine n_fa ?_)|(apply f_ld;first|refine zn1 ?_|refine zg4 ?_)|(apply f_ca;refine zu1 ci ?_)|(apply f_ia;refine n_ix ?_)|(apply zb2;refine zx ?_)|(apply f_no;refine za2 ?_))|(apply f_w;first|refine zo ?_|refine zc ?_)|refine za fun C=>?_|refine zd ?_|refine zg ?_|refine zk ?_|refine zr rfl ?_)
   refine⟨N-1,k+1,by omega,⟨by omega,hno2⟩,?_⟩
   (refine zk1 _ _ rfl rfl ?_ ?_<;>(repeat' (first|exact TmOk.nil|exact RwOk.nil|refine TmOk.cons ?_ ?_|refine RwOk.cons ?_ ?_|rfl|(refine rnV_id' rfl ?_;exact byc)|(refine zo1 ?_;first|rfl|omega|(rw [za1 (by omega) (by omega)];omega))|(refine zv rfl ?_;exact byc)|exact zg2 rfl rfl|(refine zp1 (by rfl) (by rfl) ?_ ?_<;>exact byc)|(refine rw_rn' rfl rfl ?_;simp;done))))
 have hk':¬k<l0.length:=by simpa using h1
 rw [zj14 (p:=valE) fun j y hj hy=>hno j y (by omega) hy,Bool.true_and]
 clear hno hN h1
 repeat' (first|(apply f_wo;(apply f_as;refine zu (v:=.c _) ?_))|(apply f_w;first|refine zo ?_|refine zc ?_)|refine za fun C=>?_|refine zd ?_|refine zg ?_|refine zw ?_)
 refine zt1 (fun k:Nat=>⟨tmsF [(1,.c (.pt 1 0)),(4,.c (.v (.int .i64 k)))],hpsF [(1,1,⟨33,0,0,true,[.ro l0.length 3 (acL l0),.ro l1.length 1 (acL l1),.v (.int .i64 x2),.v (.int .i64 x3),.ro l4.length 2 (acL l4)]⟩)],0,[1],91⟩)
  (fun N k=>k+N=l1.length∧∀j y,j<k→l1[j]? = some y→rexNE y=true) l1.length 0 ⟨by omega,by omega⟩ ?_ ?_
 ·(refine zk1 _ _ rfl rfl ?_ ?_<;>(repeat' (first|exact TmOk.nil|exact RwOk.nil|refine TmOk.cons ?_ ?_|refine RwOk.cons ?_ ?_|rfl|(refine rnV_id' rfl ?_;exact byc)|(refine zo1 ?_;first|rfl|omega|(rw [za1 (by omega) (by omega)];omega))|(refine zv rfl ?_;exact byc)|exact zg2 rfl rfl|(refine zp1 (by rfl) (by rfl) ?_ ?_<;>exact byc)|(refine rw_rn' rfl rfl ?_;simp;done))))
 rintro N k ⟨hN,hno⟩
 repeat' (first|(apply f_wo;first|(apply f_mv;refine zt (v:=.c _) ?_)|(apply f_fa;refine n_fa ?_)|(apply f_ld;refine zn1 ?_)|(apply f_bi;refine zl2 ?_)|(apply zw2;refine zf1 ?_))|(apply f_w;first|refine zo ?_|refine zc ?_)|refine za fun C=>?_|refine zd ?_)
 refine zn (by rfl) (fun h1=>?_) fun h1=>?_
 ·have hk':k<l1.length:=by simpa using h1
  obtain⟨x,hx⟩:∃x,l1[k]? = some x:=⟨_,List.getElem?_eq_getElem hk'⟩
  have hxm:=List.mem_of_getElem? hx
  have hgk:=ka1
  have hxz:=hs1 x hxm
  cases hb:rexNE x with
  | false =>
   have hf:=zv19 hx hb
   rw [hf,Bool.false_and,Bool.and_false]
   obtain⟨s,rfl,-⟩:=(a1 x hxm).str_ Tryz.underlying9
   have ci:=l8Rex_c hxz
   have hb:rexN s=false:=hb
   rw [show rexN (strB (E.str s))=false from hb] at ci
   repeat' (first|(apply f_wo;first|(apply f_mv;refine zt (v:=.c _) ?_)|(apply f_as;refine zu (v:=.c _) ?_)|(apply f_fa;refine n_fa ?_)|(apply f_ld;first|refine zn1 ?_|refine zh5 ?_)|(apply f_ca;refine zu1 ci ?_)|(apply f_ia;refine n_ix ?_)|(apply f_no;refine za2 ?_))|(apply f_w;first|refine zo ?_|refine zc ?_)|refine za fun C=>?_|refine zd ?_|refine zg ?_|refine zk ?_|refine zq rfl ?_)
   refine zi ?_;refine ret0 rfl zy ⟨?_,rfl⟩
   rfl
  | true =>
   have hno2:∀j z,j<k+1→l1[j]? = some z→rexNE z=true:=fun j z hj hz=>by
    by_cases e:j=k
    ·rw [e,hx] at hz;injection hz with hz;subst hz;exact hb
    ·exact hno j z (by omega) hz
   obtain⟨s,rfl,-⟩:=(a1 x hxm).str_ Tryz.underlying9
   have ci:=l8Rex_c hxz
   have hb:rexN s=true:=hb
   rw [show rexN (strB (E.str s))=true from hb] at ci
   repeat' (first|(apply f_wo;first|(apply f_mv;refine zt (v:=.c _) ?_)|(apply f_as;refine zu (v:=.c _) ?_)|(apply f_fa;refine n_fa ?_)|(apply f_ld;first|refine zn1 ?_|refine zh5 ?_)|(apply f_ca;refine zu1 ci ?_)|(apply f_ia;refine n_ix ?_)|(apply zb2;refine zx ?_)|(apply f_no;refine za2 ?_))|(apply f_w;first|refine zo ?_|refine zc ?_)|refine za fun C=>?_|refine zd ?_|refine zg ?_|refine zk ?_|refine zr rfl ?_)
   refine⟨N-1,k+1,by omega,⟨by omega,hno2⟩,?_⟩
   (refine zk1 _ _ rfl rfl ?_ ?_<;>(repeat' (first|exact TmOk.nil|exact RwOk.nil|refine TmOk.cons ?_ ?_|refine RwOk.cons ?_ ?_|rfl|(refine rnV_id' rfl ?_;exact byc)|(refine zo1 ?_;first|rfl|omega|(rw [za1 (by omega) (by omega)];omega))|(refine zv rfl ?_;exact byc)|exact zg2 rfl rfl|(refine zp1 (by rfl) (by rfl) ?_ ?_<;>exact byc)|(refine rw_rn' rfl rfl ?_;simp;done))))
 have hk':¬k<l1.length:=by simpa using h1
 rw [zj14 (p:=rexNE) fun j y hj hy=>hno j y (by omega) hy,Bool.true_and]
 clear hno hN h1 hs1
 repeat' (first|(apply f_wo;(apply f_as;refine zu (v:=.c _) ?_))|(apply f_w;first|refine zo ?_|refine zc ?_)|refine za fun C=>?_|refine zd ?_|refine zg ?_|refine zw ?_)
 generalize htot:fnsOk l4.length 0 l4=tot
 refine zt1 (fun k:Nat=>⟨tmsF [(1,.c (.pt 1 0)),(5,.c (.v (.int .i64 k)))],hpsF [(1,1,⟨33,0,0,true,[.ro l0.length 3 (acL l0),.ro l1.length 1 (acL l1),.v (.int .i64 x2),.v (.int .i64 x3),.ro l4.length 2 (acL l4)]⟩)],0,[1],91⟩)
  (fun N k=>k+N=l4.length∧fnsOk l4.length k (l4.drop k)=tot) l4.length 0 ⟨by omega,htot⟩ ?_ ?_
 ·(refine zk1 _ _ rfl rfl ?_ ?_<;>(repeat' (first|exact TmOk.nil|exact RwOk.nil|refine TmOk.cons ?_ ?_|refine RwOk.cons ?_ ?_|rfl|(refine rnV_id' rfl ?_;exact byc)|(refine zo1 ?_;first|rfl|omega|(rw [za1 (by omega) (by omega)];omega))|(refine zv rfl ?_;exact byc)|exact zg2 rfl rfl|(refine zp1 (by rfl) (by rfl) ?_ ?_<;>exact byc)|(refine rw_rn' rfl rfl ?_;simp;done))))
 rintro N k ⟨hN,ht⟩
 repeat' (first|(apply f_wo;first|(apply f_mv;refine zt (v:=.c _) ?_)|(apply f_fa;refine n_fa ?_)|(apply f_ld;refine zn1 ?_)|(apply f_bi;refine zl2 ?_)|(apply zw2;refine zf1 ?_))|(apply f_w;first|refine zo ?_|refine zc ?_)|refine za fun C=>?_|refine zd ?_)
 refine zn (by rfl) (fun hk1=>?_) fun hk1=>?_
 ·have hk':k<l4.length:=by simpa using hk1
  obtain⟨x,hx⟩:∃x,l4[k]? = some x:=⟨_,List.getElem?_eq_getElem hk'⟩
  have hd1:l4.drop k=x :: l4.drop (k+1):=by rw [List.drop_eq_getElem_cons hk'];congr 1;rw [List.getElem?_eq_getElem hk'] at hx;exact Option.some.inj hx
  rw [hd1] at ht
  have hxm:=List.mem_of_getElem? hx
  have hxz:=E.szL_mem hxm
  have hgk:=ka4
  have ci:=l18Fn_c (a4 x hxm) (by omega)
  obtain⟨pp,pA,pc,code,rfl,-,⟨hc,hck⟩,-⟩:=za3 (a4 x hxm)
  unfold fnsOk at ht
  rw [fnOk_S] at ht
  generalize fnS (E.agg [E.int IntKind.i64 pp,E.lst 2 82 pA pc code])=fb at ci ht
  repeat' (first|(apply f_wo;first|(apply f_gs;refine n_sk ?_)|(apply f_mv;first|(refine zs1 ?_ ?_<;>intro hG<;>(try cases hG))|refine zt (v:=.c _) ?_)|(apply f_as;refine zu (v:=.c _) ?_)|(apply f_fa;first|refine n_fa ?_|refine n_far ?_)|(apply f_ld;first|refine zn1 ?_|refine zh5 ?_|refine zg4 ?_)|(apply f_ca;refine zu1 ci ?_)|(apply f_bi;refine zl2 ?_)|(apply f_ia;refine n_ix ?_)|(apply zh4;refine zs2 ?_)|(apply zo9;refine zp3 ?_)|(apply zb2;refine zx ?_)|(apply f_no;refine za2 ?_)|(apply f_pk;refine zr1 (v:=.c _) ?_)|(apply f_bb;refine zh3 ?_))|(apply f_w;first|refine zo ?_|refine zc ?_)|refine za fun C=>?_|refine zd ?_|refine zg ?_|refine zk ?_|(refine zn (by rfl) ?_ ?_<;>intro hC<;>(try cases hC)))
  all_goals first
   | (refine zi ?_;refine ret0 rfl zy ⟨?_,rfl⟩
      rw [←ht]
      clear ci a0 a1 a4 ka0 ka1 ka4 he hc hck hgk ht
      simp only [Bool.not_eq_true',Bool.not_eq_false',bne_iff_ne,ne_eq,bne_eq_false_iff_eq,decide_eq_true_iff,decide_eq_false_iff_not] at *
      simp [*]
      try omega)
   | (refine⟨N-1,k+1,by omega,⟨by omega,?_⟩,?_⟩
      ·have hA:(fb&&!(decide (l4.length≤k+3)&&!(pp==0)))=true:=by
        clear ci a0 a1 a4 ka0 ka1 ka4 he hc hck hgk ht
        simp only [Bool.not_eq_true',Bool.not_eq_false',bne_iff_ne,ne_eq,bne_eq_false_iff_eq,decide_eq_true_iff,decide_eq_false_iff_not] at *
        simp [*]
        try omega
       rw [←ht,hA];rfl
      ·(refine zk1 _ _ rfl rfl ?_ ?_<;>(repeat' (first|exact TmOk.nil|exact RwOk.nil|refine TmOk.cons ?_ ?_|refine RwOk.cons ?_ ?_|rfl|(refine rnV_id' rfl ?_;exact byc)|(refine zo1 ?_;first|rfl|omega|(rw [za1 (by omega) (by omega)];omega))|(refine zv rfl ?_;exact byc)|exact zg2 rfl rfl|(refine zp1 (by rfl) (by rfl) ?_ ?_<;>exact byc)|(refine rw_rn' rfl rfl ?_;simp;done)))))
 ·have hk':¬k<l4.length:=by simpa using hk1
  obtain rfl:k=l4.length:=by omega
  rw [List.drop_length] at ht
  rw [←ht]
  show AWp _ _ _ _
  repeat' (first|(apply f_wo;first|(apply f_gs;refine n_sk ?_)|(apply f_mv;(refine zs1 ?_ ?_<;>intro hG<;>(try cases hG)))|(apply f_as;refine zu (v:=.c _) ?_)|(apply f_fa;refine n_fa ?_)|(apply f_ld;refine zn1 ?_)|(apply f_ca;refine zu1 ((zx10 _ _ _)) ?_)|(apply f_bi;refine zl2 ?_)|(apply zk17;refine zb5 ?_)|(apply f_pk;refine zr1 (v:=.c _) ?_))|(apply f_w;first|refine zo ?_|refine zc ?_)|refine za fun C=>?_|refine zd ?_|refine zw ?_)
  all_goals
   (first|refine zi ?_|skip);refine ret0 rfl zy ⟨?_,rfl⟩;refine congrArg (fun s=>AV.c (AC.v (Value.bool s))) ?_
   show _=(modHead l0 l1 x2 x3 l4&&true)
   rw [Bool.and_true]
   clear a0 a1 a4 ka0 ka1 ka4 he ht htot
   unfold modHead
   simp only [inR] at *
   (rw [Bool.eq_iff_iff];(try simp only [Bool.and_eq_true,Bool.or_eq_true,Bool.not_eq_true',decide_eq_true_iff,decide_eq_false_iff_not,beq_iff_eq,Bool.and_eq_false_iff,Bool.or_eq_false_iff,bne_iff_ne,ne_eq,Bool.true_eq_false,Bool.false_eq_true,true_iff,false_iff,iff_true,iff_false] at *);first|omega|(simp at *;omega))
theorem zx19:∀{l:List E} {n i k:Nat} {x:E},fnsOk n i l=true→l[k]? = some x→fnOkE n (i+k) x=true
 | [],n,i,k,x,h,hx=>by simp at hx
 | f :: r,n,i,k,x,h,hx=>by
  unfold fnsOk at h
  simp only [Bool.and_eq_true] at h
  cases k with
  | zero=>simp at hx;subst hx;exact h.1
  | succ k =>
   have:=zx19 (k:=k) h.2 (by simpa using hx)
   rw [show i+(k+1)=i+1+k by omega];exact this
theorem fnOk_code {n i:Nat}{p:Int}{k:Nat}{T:TypeId}{A:Option Addr}{c:Nat}{code:List E}(h:fnOkE n i (.agg [.int .i64 p,.lst k T A c code])=true):code.length≤3000∧1≤code.length:=by
 unfold fnOkE at h
 simp only [Bool.and_eq_true,inR,decide_eq_true_iff] at h
 omega
theorem zp21 {l0 l1 l4:List E}{x2 x3:Int}(h:modOkL l0 l1 x2 x3 l4=true):l0.length≤400∧l1.length≤100∧(0≤x2∧x2≤400)∧(0≤x3∧x3≤400)∧(3≤l4.length∧l4.length≤9)∧(∀x∈l0,valE x=true)∧(∀x∈l1,rexNE x=true)∧fnsOk l4.length 0 l4=true:=by
 unfold modOkL modHead at h
 simp only [Bool.and_eq_true,decide_eq_true_iff,inR,List.all_eq_true] at h
 obtain⟨⟨⟨⟨⟨h0,h1⟩,h2⟩,h3⟩,h4⟩,⟨h5,h6⟩,h7⟩:=h
 exact⟨h0,h1,h2,h3,by omega,h5,h6,h7⟩
end Go.Proofs.YtghljnfbbaklnaaGreat
