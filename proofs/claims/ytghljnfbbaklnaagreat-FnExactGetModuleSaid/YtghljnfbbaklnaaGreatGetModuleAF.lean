/- Texts and values got, both sides. -/
import Derived.Test.YtghljnfbbaklnaaGreatGetModuleAE
-- BIT
-- MVP
namespace Go.Proofs.YtghljnfbbaklnaaGreat
open Go.RowKit
set_option maxRecDepth 100000
theorem zn16 {bs:List UInt8}{p:Nat}:∀(f k n:Nat),getGo bs p f k n=(0,0,false)∨∃m q,getGo bs p f k n=(m,q,true)∧q≤bs.length∧m≤2147483647
 | 0,k,n=>.inl rfl
 | f+1,k,n=>by
  unfold getGo
  split
  ·split
   ·exact zn16 f (k+1) _
   ·split
    ·exact .inl rfl
    ·rename_i h1 h2 h3
     simp only [not_or,Nat.not_lt] at h3
     exact .inr ⟨_,_,rfl,by omega,h3.2⟩
  ·exact .inl rfl
theorem zm4 (bs:List UInt8)(at_:Int):getU bs at_=(0,0,false)∨∃m q,getU bs at_=(m,q,true)∧q≤bs.length∧m≤2147483647:=by
 unfold getU
 split
 ·exact zn16 5 0 0
 ·exact .inl rfl
theorem zb13 {bs:List UInt8}{p:Nat}:∀(f k:Nat) (n:Int),k+f=5→0≤n→n<128 ^ k→getSGo bs p f k n=(0,0,false)∨∃(m:Int) (q:Nat),getSGo bs p f k n=(m,(q:Int),true)∧q≤bs.length∧-34359738368≤m∧m≤34359738368
 | 0,k,n,_,_,_=>.inl rfl
 | f+1,k,n,hf,h0,h1=>by
  unfold getSGo
  cases hb:bs[p+k]? with
  | none=>exact .inl rfl
  | some b =>
   dsimp only
   obtain⟨q1,q2,q3⟩:=pow_le (show k≤4 by omega)
   have hlt:p+k<bs.length:=(List.getElem?_eq_some_iff.1 hb).1
   obtain⟨u,hu⟩:∃u:Int,((b.toNat % 128:Nat):Int)=u:=⟨_,rfl⟩
   have hur:0≤u∧u≤127:=by omega
   obtain⟨q,hq⟩:∃q:Int,(128:Int) ^ k=q:=⟨_,rfl⟩
   rw [hu,q3,hq]
   rw [hq] at q1 q2 h1
   have hwr:0≤u*q∧u*q≤127*q:=⟨Int.mul_nonneg (by omega) (by omega),Int.mul_le_mul_of_nonneg_right (by omega) (by omega)⟩
   obtain⟨w,hw⟩:∃w:Int,u*q=w:=⟨_,rfl⟩
   rw [hw] at hwr ⊢
   split
   ·exact zb13 f (k+1) (n+w) (by omega) (by omega) (by rw [q3,hq];omega)
   ·by_cases h64:64≤b.toNat
    ·simp only [if_pos h64]
     split
     ·exact .inr ⟨_,p+k+1,rfl,by omega,by omega⟩
     ·exact .inl rfl
    ·simp only [if_neg h64]
     split
     ·exact .inr ⟨_,p+k+1,rfl,by omega,by omega⟩
     ·exact .inl rfl
theorem zl14 (bs:List UInt8)(at_:Int):getS bs at_=(0,0,false)∨∃(m:Int) (q:Nat),getS bs at_=(m,(q:Int),true)∧q≤bs.length∧-34359738368≤m∧m≤34359738368:=by
 unfold getS
 split
 ·exact zb13 5 0 0 rfl (by decide) (by decide)
 ·exact .inl rfl
def txt8 (bs:List UInt8)(q n:Nat):ByteArray:=⟨(cut8 bs q n).toArray⟩
def getT (bs:List UInt8)(at_:Int):ByteArray×Nat×Bool :=
 if (getU bs at_).2.2=true∧(getU bs at_).2.1+(getU bs at_).1≤bs.length then (txt8 bs (getU bs at_).2.1 (getU bs at_).1,(getU bs at_).2.1+(getU bs at_).1,true) else (⟨#[]⟩,0,false)
theorem zc10 (bs:List UInt8)(at_:Int):getT bs at_=(⟨#[]⟩,0,false)∨∃s q,getT bs at_=(s,q,true)∧q≤bs.length∧s.size≤q:=by
 unfold getT
 split
 ·rename_i h
  exact .inr ⟨_,_,rfl,h.2,by simp [txt8,ByteArray.size,cut8];omega⟩
 ·exact .inl rfl
theorem zi8 {bs:List UInt8}(at_:Int)(hat : -9223372036854775808≤at_∧at_≤9223372036854775807)(hn:bs.length≤1073741824):Ctr Tryz.prog 87 [.c (.ro bs.length 1 (acL (bI bs))),.c (.v (.int .i64 at_))] [] (.tu [.c (.v (.string (getT bs at_).1)),.c (.v (.int .i64 ((getT bs at_).2.1:Nat))),.c (.v (.bool (getT bs at_).2.2))]) []:=by
 have c1:=zg7 (bs:=bs) at_ hat hn
 unfold getT
 rcases zm4 bs at_ with h|⟨n,q,h,hq,hm⟩
 ·rw [h] at c1 ⊢
  refine zi1 Tryz.func87 rfl rfl ?_
  repeat' (first|(apply f_wo;first|(apply f_gs;refine n_sk ?_)|(apply f_mv;first|(refine zs1 ?_ ?_<;>intro hG<;>(try cases hG))|refine zt (v:=.c _) ?_|refine zt (v:=.tu _) ?_)|(apply f_as;refine zu (v:=.c _) ?_)|(apply f_ca;refine zo3 c1 ?_)|(apply f_no;refine za2 ?_)|(apply f_pk;refine zr1 (v:=.c _) ?_)|(apply f_ex;refine zs4 (v:=.c _) ?_))|(apply f_w;first|refine zo ?_|refine zc ?_)|refine za fun C=>?_|refine zd ?_|refine zq rfl ?_)
  refine zi ?_;refine ret0 rfl (zc2 (zj zy (zj zy (zj zy zj1)))) ⟨?_,rfl⟩
  rfl
 ·rw [h] at c1 ⊢
  dsimp only at c1 ⊢
  have hk:=zf19 (bs:=bs)
  have hin:=zg19 (bs:=cut8 bs q n)
  refine zi1 Tryz.func87 rfl rfl ?_
  by_cases hle:q+n≤bs.length
  ·rw [if_pos ⟨rfl,hle⟩]
   repeat' (first|(apply f_wo;first|(apply f_mv;first|(refine zs1 ?_ ?_<;>intro hG<;>(try cases hG))|refine zt (v:=.c _) ?_|refine zt (v:=.tu _) ?_)|(apply f_as;refine zu (v:=.c _) ?_)|(apply f_ca;refine zo3 c1 ?_)|(apply f_bi;refine zl2 ?_)|(apply zi4;refine zh2 ?_)|(apply f_no;refine za2 ?_)|(apply f_pk;refine zr1 (v:=.c _) ?_)|(apply f_ex;refine zs4 (v:=.c _) ?_)|(apply f_bb;refine zh3 ?_))|(apply f_w;first|refine zo ?_|refine zc ?_)|refine za fun C=>?_|refine zd ?_)
   refine zn (by rfl) (fun hC=>absurd (of_decide_eq_true hC) (by omega)) fun hC=>?_
   repeat' (first|(apply f_wo;first|(apply f_mv;refine zt (v:=.c _) ?_)|(apply zb2;refine zx ?_))|(apply f_w;refine zo ?_)|refine za fun C=>?_|refine zd ?_|refine zk ?_)
   refine n_rsl (bs:=bs) q n ?_ hle ?_ ?_
   rotate_left
   ·rfl
   ·push_cast;omega
   repeat' (first|(apply f_wo;first|(apply f_mv;refine zt (v:=.c _) ?_)|(apply f_as;refine zu (v:=.c _) ?_)|(apply zb2;refine zx ?_)|(apply f_cv;refine n_cvr ?_))|(apply f_w;first|refine zo ?_|refine zc ?_))
   refine zi ?_;refine ret0 rfl (zc2 (zj zy (zj zy (zj zy zj1)))) ⟨?_,rfl⟩
   rw [zv10];rfl
  ·rw [if_neg (by omega)]
   repeat' (first|(apply f_wo;first|(apply f_mv;first|(refine zs1 ?_ ?_<;>intro hG<;>(try cases hG))|refine zt (v:=.c _) ?_|refine zt (v:=.tu _) ?_)|(apply f_as;refine zu (v:=.c _) ?_)|(apply f_ca;refine zo3 c1 ?_)|(apply f_bi;refine zl2 ?_)|(apply zi4;refine zh2 ?_)|(apply f_no;refine za2 ?_)|(apply f_pk;refine zr1 (v:=.c _) ?_)|(apply f_ex;refine zs4 (v:=.c _) ?_)|(apply f_bb;refine zh3 ?_))|(apply f_w;first|refine zo ?_|refine zc ?_)|refine za fun C=>?_|refine zd ?_)
   refine zn (by rfl) (fun hC=>?_) fun hC=>absurd (of_decide_eq_false hC) (by omega)
   repeat' (first|(apply f_wo;(apply f_as;refine zu (v:=.c _) ?_))|(apply f_w;first|refine zo ?_|refine zc ?_)|refine za fun C=>?_|refine zd ?_)
   refine zi ?_;refine ret0 rfl (zc2 (zj zy (zj zy (zj zy zj1)))) ⟨?_,rfl⟩
   rfl
theorem zj8 {bs:List UInt8}(at_:Int)(hat : -9223372036854775808≤at_∧at_≤9223372036854775807)(hn:bs.length≤1073741824):Ctr Tryz.prog 151 [.c (.ro bs.length 1 (acL (bI bs))),.c (.v (.int .i64 at_))] [] (.tu [.c (.v (.string (getT bs at_).1)),.c (.v (.int .i64 ((getT bs at_).2.1:Nat))),.c (.v (.bool (getT bs at_).2.2))]) []:=by
 have c1:=zh7 (bs:=bs) at_ hat hn
 unfold getT
 rcases zm4 bs at_ with h|⟨n,q,h,hq,hm⟩
 ·rw [h] at c1 ⊢
  refine zi1 Tryz.func151 rfl rfl ?_
  repeat' (first|(apply f_wo;first|(apply f_gs;refine n_sk ?_)|(apply f_mv;first|(refine zs1 ?_ ?_<;>intro hG<;>(try cases hG))|refine zt (v:=.c _) ?_|refine zt (v:=.tu _) ?_)|(apply f_as;refine zu (v:=.c _) ?_)|(apply f_ca;refine zo3 c1 ?_)|(apply f_no;refine za2 ?_)|(apply f_pk;refine zr1 (v:=.c _) ?_)|(apply f_ex;refine zs4 (v:=.c _) ?_))|(apply f_w;first|refine zo ?_|refine zc ?_)|refine za fun C=>?_|refine zd ?_|refine zq rfl ?_)
  refine zi ?_;refine ret0 rfl (zc2 (zj zy (zj zy (zj zy zj1)))) ⟨?_,rfl⟩
  rfl
 ·rw [h] at c1 ⊢
  dsimp only at c1 ⊢
  have hk:=zf19 (bs:=bs)
  have hin:=zg19 (bs:=cut8 bs q n)
  refine zi1 Tryz.func151 rfl rfl ?_
  by_cases hle:q+n≤bs.length
  ·rw [if_pos ⟨rfl,hle⟩]
   repeat' (first|(apply f_wo;first|(apply f_mv;first|(refine zs1 ?_ ?_<;>intro hG<;>(try cases hG))|refine zt (v:=.c _) ?_|refine zt (v:=.tu _) ?_)|(apply f_as;refine zu (v:=.c _) ?_)|(apply f_ca;refine zo3 c1 ?_)|(apply f_bi;refine zl2 ?_)|(apply zi4;refine zh2 ?_)|(apply f_no;refine za2 ?_)|(apply f_pk;refine zr1 (v:=.c _) ?_)|(apply f_ex;refine zs4 (v:=.c _) ?_)|(apply f_bb;refine zh3 ?_))|(apply f_w;first|refine zo ?_|refine zc ?_)|refine za fun C=>?_|refine zd ?_)
   refine zn (by rfl) (fun hC=>absurd (of_decide_eq_true hC) (by omega)) fun hC=>?_
   repeat' (first|(apply f_wo;first|(apply f_mv;refine zt (v:=.c _) ?_)|(apply zb2;refine zx ?_))|(apply f_w;refine zo ?_)|refine za fun C=>?_|refine zd ?_|refine zk ?_)
   refine n_rsl (bs:=bs) q n ?_ hle ?_ ?_
   rotate_left
   ·rfl
   ·push_cast;omega
   repeat' (first|(apply f_wo;first|(apply f_mv;refine zt (v:=.c _) ?_)|(apply f_as;refine zu (v:=.c _) ?_)|(apply zb2;refine zx ?_)|(apply f_cv;refine n_cvr ?_))|(apply f_w;first|refine zo ?_|refine zc ?_))
   refine zi ?_;refine ret0 rfl (zc2 (zj zy (zj zy (zj zy zj1)))) ⟨?_,rfl⟩
   rw [zv10];rfl
  ·rw [if_neg (by omega)]
   repeat' (first|(apply f_wo;first|(apply f_mv;first|(refine zs1 ?_ ?_<;>intro hG<;>(try cases hG))|refine zt (v:=.c _) ?_|refine zt (v:=.tu _) ?_)|(apply f_as;refine zu (v:=.c _) ?_)|(apply f_ca;refine zo3 c1 ?_)|(apply f_bi;refine zl2 ?_)|(apply zi4;refine zh2 ?_)|(apply f_no;refine za2 ?_)|(apply f_pk;refine zr1 (v:=.c _) ?_)|(apply f_ex;refine zs4 (v:=.c _) ?_)|(apply f_bb;refine zh3 ?_))|(apply f_w;first|refine zo ?_|refine zc ?_)|refine za fun C=>?_|refine zd ?_)
   refine zn (by rfl) (fun hC=>?_) fun hC=>absurd (of_decide_eq_false hC) (by omega)
   repeat' (first|(apply f_wo;(apply f_as;refine zu (v:=.c _) ?_))|(apply f_w;first|refine zo ?_|refine zc ?_)|refine za fun C=>?_|refine zd ?_)
   refine zi ?_;refine ret0 rfl (zc2 (zj zy (zj zy (zj zy zj1)))) ⟨?_,rfl⟩
   rfl
structure GV where
 k:Int
 n:Int
 s:ByteArray
 p:Int
 ok:Bool
def gvbad:GV:=⟨0,0,⟨#[]⟩,0,false⟩
def getV1 (bs:List UInt8)(q:Int):GV:=if (getS bs q).2.2&&valOk 1 (getS bs q).1 ⟨#[]⟩ then ⟨1,(getS bs q).1,⟨#[]⟩,(getS bs q).2.1,true⟩ else gvbad
def getV2 (bs:List UInt8)(q:Int):GV:=if (getT bs q).2.2&&valOk 2 0 (getT bs q).1 then ⟨2,0,(getT bs q).1,((getT bs q).2.1:Nat),true⟩ else gvbad
def getVk (bs:List UInt8)(q:Int)(k:Nat):GV:=if k=1 then getV1 bs q else if k=2 then getV2 bs q else if valOk k 0 ⟨#[]⟩ then ⟨k,0,⟨#[]⟩,q,true⟩ else gvbad
def getV (bs:List UInt8)(at_:Int):GV:=if (getU bs at_).2.2 then getVk bs ((getU bs at_).2.1:Nat) (getU bs at_).1 else gvbad
theorem zd4 {a b:Int}{s:ByteArray}(h : -9223372036854775808≤b∧b≤9223372036854775807):Ctr Tryz.prog 105 [.ag [.v (.int .i64 a),.v (.int .i64 b),.v (.string s)]] [] (.c (.v (.bool (valOk a b s)))) []:=zb4 (by kernel_rfl) rfl za14 fun w=>zt7 a b s w h
theorem ze4 {a b:Int}{s:ByteArray}(h : -9223372036854775808≤b∧b≤9223372036854775807):Ctr Tryz.prog 94 [.ag [.v (.int .i64 a),.v (.int .i64 b),.v (.string s)]] [] (.c (.v (.bool (valOk a b s)))) []:=zb4 (by kernel_rfl) rfl za14 fun w=>zu7 a b s w h
def gvR (g:GV):AV:=.tu [.ag [.v (.int .i64 g.k),.v (.int .i64 g.n),.v (.string g.s)],.c (.v (.int .i64 g.p)),.c (.v (.bool g.ok))]
theorem zo16 {bs:List UInt8}(at_:Int)(hat : -9223372036854775808≤at_∧at_≤9223372036854775807)(hn:bs.length≤1073741824):Ctr Tryz.prog 86 [.c (.ro bs.length 1 (acL (bI bs))),.c (.v (.int .i64 at_))] [] (gvR (getV bs at_)) []:=by
 have c1:=zg7 (bs:=bs) at_ hat hn
 unfold getV
 rcases zm4 bs at_ with h|⟨k,q,h,hq,hm⟩
 ·rw [h] at c1 ⊢
  have c3:=zd4 (a:=0) (b:=0) (s:=⟨#[]⟩) (by omega)
  refine zi1 Tryz.func86 rfl rfl ?_
  repeat' (first|(apply f_wo;first|(apply f_gs;refine n_sk ?_)|(apply f_mv;first|(refine zs1 ?_ ?_<;>intro hG<;>(try cases hG))|refine zt (v:=.c _) ?_|refine zt (v:=.tu _) ?_)|(apply f_as;refine zu (v:=.c _) ?_)|(apply f_ca;refine zo3 c1 ?_)|(apply f_st;refine n_st ?_)|(apply zx1;refine zb1 ?_)|(apply f_no;refine za2 ?_)|(apply f_pk;refine zr1 (v:=.c _) ?_)|(apply f_ex;refine zs4 (v:=.c _) ?_)|refine n_al ?_|refine zh1 ?_)|(apply f_w;first|refine zo ?_|refine zc ?_)|refine za fun C=>?_|refine zd ?_|refine zg ?_|refine zk ?_|refine zq rfl ?_|refine zr rfl ?_)
  refine zi ?_;refine ret0 rfl (zc2 (zj (zq1 (zd1 rfl (zd1 rfl (zd1 rfl ze1)))) (zj zy (zj zy zj1)))) ⟨?_,rfl⟩
  rfl
 ·rw [h] at c1 ⊢
  dsimp only at c1 ⊢
  rw [if_pos rfl]
  by_cases k1:k=1
  ·subst k1
   rw [show getVk bs (q:Int) 1=getV1 bs q from rfl]
   unfold getV1
   have c2:=zx20 (bs:=bs) (q:Int) (by omega) hn
   rcases zl14 bs q with h2|⟨m,p,h2,hp,hr⟩
   ·rw [h2] at c2 ⊢
    have c3:=zd4 (a:=1) (b:=0) (s:=⟨#[]⟩) (by omega)
    refine zi1 Tryz.func86 rfl rfl ?_
    repeat' (first|(apply f_wo;first|(apply f_gs;refine n_sk ?_)|(apply f_mv;first|(refine zs1 ?_ ?_<;>intro hG<;>(try cases hG))|refine zt (v:=.c _) ?_|refine zt (v:=.tu _) ?_)|(apply f_as;refine zu (v:=.c _) ?_)|(apply f_fa;refine n_fa ?_)|(apply f_ca;first|refine zo3 c1 ?_|refine zo3 c2 ?_)|(apply f_st;refine n_st ?_)|(apply zx1;refine zb1 ?_)|(apply f_no;refine za2 ?_)|(apply f_pk;refine zr1 (v:=.c _) ?_)|(apply f_ex;refine zs4 (v:=.c _) ?_)|refine n_al ?_|refine zh1 ?_)|(apply f_w;first|refine zo ?_|refine zc ?_)|refine za fun C=>?_|refine zd ?_|refine zg ?_|refine zq rfl ?_)
    refine zi ?_;refine ret0 rfl (zc2 (zj (zq1 (zd1 rfl (zd1 rfl (zd1 rfl ze1)))) (zj zy (zj zy zj1)))) ⟨?_,rfl⟩
    rfl
   ·rw [h2] at c2 ⊢
    dsimp only at c2 ⊢
    have c3:=zd4 (a:=1) (b:=m) (s:=⟨#[]⟩) (by omega)
    refine zi1 Tryz.func86 rfl rfl ?_
    cases hv:valOk 1 m ⟨#[]⟩ with
    | true =>
     rw [hv] at c3
     repeat' (first|(apply f_wo;first|(apply f_mv;first|(refine zs1 ?_ ?_<;>intro hG<;>(try cases hG))|refine zt (v:=.c _) ?_|refine zt (v:=.tu _) ?_)|(apply f_as;refine zu (v:=.c _) ?_)|(apply f_fa;refine n_fa ?_)|(apply f_ld;refine zq2 ?_)|(apply f_ca;first|refine zo3 c1 ?_|refine zo3 c2 ?_|refine zu1 c3 ?_)|(apply f_st;refine n_st ?_)|(apply zx1;refine zb1 ?_)|(apply f_no;refine za2 ?_)|(apply f_pk;refine zr1 (v:=.c _) ?_)|(apply f_ex;refine zs4 (v:=.c _) ?_)|refine n_al ?_|refine zh1 ?_)|(apply f_w;first|refine zo ?_|refine zc ?_)|refine za fun C=>?_|refine zd ?_|refine zg ?_|refine zk ?_|refine zq rfl ?_|refine zr rfl ?_)
     refine zi ?_;refine ret0 rfl (zc2 (zj (zq1 (zd1 rfl (zd1 rfl (zd1 rfl ze1)))) (zj zy (zj zy zj1)))) ⟨?_,rfl⟩
     rfl
    | false =>
     rw [hv] at c3
     repeat' (first|(apply f_wo;first|(apply f_mv;first|(refine zs1 ?_ ?_<;>intro hG<;>(try cases hG))|refine zt (v:=.c _) ?_|refine zt (v:=.tu _) ?_)|(apply f_as;refine zu (v:=.c _) ?_)|(apply f_fa;refine n_fa ?_)|(apply f_ld;refine zq2 ?_)|(apply f_ca;first|refine zo3 c1 ?_|refine zo3 c2 ?_|refine zu1 c3 ?_)|(apply f_st;refine n_st ?_)|(apply zx1;refine zb1 ?_)|(apply f_no;refine za2 ?_)|(apply f_pk;refine zr1 (v:=.c _) ?_)|(apply f_ex;refine zs4 (v:=.c _) ?_)|refine n_al ?_|refine zh1 ?_)|(apply f_w;first|refine zo ?_|refine zc ?_)|refine za fun C=>?_|refine zd ?_|refine zg ?_|refine zq rfl ?_)
     refine zi ?_;refine ret0 rfl (zc2 (zj (zq1 (zd1 rfl (zd1 rfl (zd1 rfl ze1)))) (zj zy (zj zy zj1)))) ⟨?_,rfl⟩
     rfl
  ·by_cases k2:k=2
   ·subst k2
    rw [show getVk bs (q:Int) 2=getV2 bs q from rfl]
    unfold getV2
    have c2:=zi8 (bs:=bs) (q:Int) (by omega) hn
    rcases zc10 bs q with h2|⟨m,p,h2,hp,hr⟩
    ·rw [h2] at c2 ⊢
     have c3:=zd4 (a:=2) (b:=0) (s:=⟨#[]⟩) (by omega)
     refine zi1 Tryz.func86 rfl rfl ?_
     repeat' (first|(apply f_wo;first|(apply f_gs;refine n_sk ?_)|(apply f_mv;first|(refine zs1 ?_ ?_<;>intro hG<;>(try cases hG))|refine zt (v:=.c _) ?_|refine zt (v:=.tu _) ?_)|(apply f_as;refine zu (v:=.c _) ?_)|(apply f_fa;refine n_fa ?_)|(apply f_ca;first|refine zo3 c1 ?_|refine zo3 c2 ?_)|(apply f_st;refine n_st ?_)|(apply zx1;refine zb1 ?_)|(apply f_no;refine za2 ?_)|(apply f_pk;refine zr1 (v:=.c _) ?_)|(apply f_ex;refine zs4 (v:=.c _) ?_)|refine n_al ?_|refine zh1 ?_)|(apply f_w;first|refine zo ?_|refine zc ?_)|refine za fun C=>?_|refine zd ?_|refine zg ?_|refine zq rfl ?_|refine zr rfl ?_)
     refine zi ?_;refine ret0 rfl (zc2 (zj (zq1 (zd1 rfl (zd1 rfl (zd1 rfl ze1)))) (zj zy (zj zy zj1)))) ⟨?_,rfl⟩
     rfl
    ·rw [h2] at c2 ⊢
     dsimp only at c2 ⊢
     have c3:=zd4 (a:=2) (b:=0) (s:=m) (by omega)
     refine zi1 Tryz.func86 rfl rfl ?_
     cases hv:valOk 2 0 m with
     | true =>
      rw [hv] at c3
      repeat' (first|(apply f_wo;first|(apply f_mv;first|(refine zs1 ?_ ?_<;>intro hG<;>(try cases hG))|refine zt (v:=.c _) ?_|refine zt (v:=.tu _) ?_)|(apply f_as;refine zu (v:=.c _) ?_)|(apply f_fa;refine n_fa ?_)|(apply f_ld;refine zq2 ?_)|(apply f_ca;first|refine zo3 c1 ?_|refine zo3 c2 ?_|refine zu1 c3 ?_)|(apply f_st;refine n_st ?_)|(apply zx1;refine zb1 ?_)|(apply f_no;refine za2 ?_)|(apply f_pk;refine zr1 (v:=.c _) ?_)|(apply f_ex;refine zs4 (v:=.c _) ?_)|refine n_al ?_|refine zh1 ?_)|(apply f_w;first|refine zo ?_|refine zc ?_)|refine za fun C=>?_|refine zd ?_|refine zg ?_|refine zk ?_|refine zq rfl ?_|refine zr rfl ?_)
      refine zi ?_;refine ret0 rfl (zc2 (zj (zq1 (zd1 rfl (zd1 rfl (zd1 rfl ze1)))) (zj zy (zj zy zj1)))) ⟨?_,rfl⟩
      rfl
     | false =>
      rw [hv] at c3
      repeat' (first|(apply f_wo;first|(apply f_mv;first|(refine zs1 ?_ ?_<;>intro hG<;>(try cases hG))|refine zt (v:=.c _) ?_|refine zt (v:=.tu _) ?_)|(apply f_as;refine zu (v:=.c _) ?_)|(apply f_fa;refine n_fa ?_)|(apply f_ld;refine zq2 ?_)|(apply f_ca;first|refine zo3 c1 ?_|refine zo3 c2 ?_|refine zu1 c3 ?_)|(apply f_st;refine n_st ?_)|(apply zx1;refine zb1 ?_)|(apply f_no;refine za2 ?_)|(apply f_pk;refine zr1 (v:=.c _) ?_)|(apply f_ex;refine zs4 (v:=.c _) ?_)|refine n_al ?_|refine zh1 ?_)|(apply f_w;first|refine zo ?_|refine zc ?_)|refine za fun C=>?_|refine zd ?_|refine zg ?_|refine zq rfl ?_|refine zr rfl ?_)
      refine zi ?_;refine ret0 rfl (zc2 (zj (zq1 (zd1 rfl (zd1 rfl (zd1 rfl ze1)))) (zj zy (zj zy zj1)))) ⟨?_,rfl⟩
      rfl
   ·have hk1:(k:Int)≠1:=by omega
    have hk2:(k:Int)≠2:=by omega
    have c3:=zd4 (a:=(k:Int)) (b:=0) (s:=⟨#[]⟩) (by omega)
    rw [show getVk bs (q:Int) k=if valOk k 0 ⟨#[]⟩ then ⟨k,0,⟨#[]⟩,q,true⟩ else gvbad by unfold getVk;rw [if_neg k1,if_neg k2]]
    refine zi1 Tryz.func86 rfl rfl ?_
    repeat' (first|(apply f_wo;first|(apply f_mv;first|refine zt (v:=.c _) ?_|refine zt (v:=.tu _) ?_)|(apply f_as;refine zu (v:=.c _) ?_)|(apply f_ca;refine zo3 c1 ?_)|(apply f_st;refine n_st ?_)|(apply zx1;refine zb1 ?_)|(apply f_ex;refine zs4 (v:=.c _) ?_)|refine n_al ?_|refine zh1 ?_)|(apply f_w;first|refine zo ?_|refine zc ?_)|refine za fun C=>?_|refine zd ?_|refine zg ?_)
    refine zn (by rfl) (fun hC=>absurd (eq_of_beq hC) hk1) fun hC=>?_
    repeat' (first|(apply f_wo;first|(apply f_as;refine zu (v:=.c _) ?_)|(apply zx1;refine zb1 ?_))|(apply f_w;first|refine zo ?_|refine zc ?_)|refine za fun C=>?_|refine zd ?_)
    refine zn (by rfl) (fun hC=>absurd (eq_of_beq hC) hk2) fun hC=>?_
    cases hv:valOk (k:Int) 0 ⟨#[]⟩ with
    | true =>
     rw [hv] at c3
     repeat' (first|(apply f_wo;first|(apply f_mv;first|(refine zs1 ?_ ?_<;>intro hG<;>(try cases hG))|refine zt (v:=.c _) ?_)|(apply f_as;refine zu (v:=.c _) ?_)|(apply f_ld;refine zq2 ?_)|(apply f_ca;refine zu1 c3 ?_)|(apply f_st;refine n_st ?_)|(apply f_no;refine za2 ?_)|(apply f_pk;refine zr1 (v:=.c _) ?_))|(apply f_w;first|refine zo ?_|refine zc ?_)|refine za fun C=>?_|refine zd ?_|refine zk ?_|refine zr rfl ?_)
     refine zi ?_;refine ret0 rfl (zc2 (zj (zq1 (zd1 rfl (zd1 rfl (zd1 rfl ze1)))) (zj zy (zj zy zj1)))) ⟨?_,rfl⟩
     rfl
    | false =>
     rw [hv] at c3
     repeat' (first|(apply f_wo;first|(apply f_mv;first|(refine zs1 ?_ ?_<;>intro hG<;>(try cases hG))|refine zt (v:=.c _) ?_)|(apply f_as;refine zu (v:=.c _) ?_)|(apply f_ld;refine zq2 ?_)|(apply f_ca;refine zu1 c3 ?_)|(apply f_st;refine n_st ?_)|(apply f_no;refine za2 ?_)|(apply f_pk;refine zr1 (v:=.c _) ?_)|refine zh1 ?_)|(apply f_w;first|refine zo ?_|refine zc ?_)|refine za fun C=>?_|refine zd ?_|refine zk ?_|refine zq rfl ?_)
     refine zi ?_;refine ret0 rfl (zc2 (zj (zq1 (zd1 rfl (zd1 rfl (zd1 rfl ze1)))) (zj zy (zj zy zj1)))) ⟨?_,rfl⟩
     rfl
theorem zp16 {bs:List UInt8}(at_:Int)(hat : -9223372036854775808≤at_∧at_≤9223372036854775807)(hn:bs.length≤1073741824):Ctr Tryz.prog 150 [.c (.ro bs.length 1 (acL (bI bs))),.c (.v (.int .i64 at_))] [] (gvR (getV bs at_)) []:=by
 have c1:=zh7 (bs:=bs) at_ hat hn
 unfold getV
 rcases zm4 bs at_ with h|⟨k,q,h,hq,hm⟩
 ·rw [h] at c1 ⊢
  have c3:=ze4 (a:=0) (b:=0) (s:=⟨#[]⟩) (by omega)
  refine zi1 Tryz.func150 rfl rfl ?_
  repeat' (first|(apply f_wo;first|(apply f_gs;refine n_sk ?_)|(apply f_mv;first|(refine zs1 ?_ ?_<;>intro hG<;>(try cases hG))|refine zt (v:=.c _) ?_|refine zt (v:=.tu _) ?_)|(apply f_as;refine zu (v:=.c _) ?_)|(apply f_ca;refine zo3 c1 ?_)|(apply f_st;refine n_st ?_)|(apply zx1;refine zb1 ?_)|(apply f_no;refine za2 ?_)|(apply f_pk;refine zr1 (v:=.c _) ?_)|(apply f_ex;refine zs4 (v:=.c _) ?_)|refine n_al ?_|refine zh1 ?_)|(apply f_w;first|refine zo ?_|refine zc ?_)|refine za fun C=>?_|refine zd ?_|refine zg ?_|refine zk ?_|refine zq rfl ?_|refine zr rfl ?_)
  refine zi ?_;refine ret0 rfl (zc2 (zj (zq1 (zd1 rfl (zd1 rfl (zd1 rfl ze1)))) (zj zy (zj zy zj1)))) ⟨?_,rfl⟩
  rfl
 ·rw [h] at c1 ⊢
  dsimp only at c1 ⊢
  rw [if_pos rfl]
  by_cases k1:k=1
  ·subst k1
   rw [show getVk bs (q:Int) 1=getV1 bs q from rfl]
   unfold getV1
   have c2:=zw20 (bs:=bs) (q:Int) (by omega) hn
   rcases zl14 bs q with h2|⟨m,p,h2,hp,hr⟩
   ·rw [h2] at c2 ⊢
    have c3:=ze4 (a:=1) (b:=0) (s:=⟨#[]⟩) (by omega)
    refine zi1 Tryz.func150 rfl rfl ?_
    repeat' (first|(apply f_wo;first|(apply f_gs;refine n_sk ?_)|(apply f_mv;first|(refine zs1 ?_ ?_<;>intro hG<;>(try cases hG))|refine zt (v:=.c _) ?_|refine zt (v:=.tu _) ?_)|(apply f_as;refine zu (v:=.c _) ?_)|(apply f_fa;refine n_fa ?_)|(apply f_ca;first|refine zo3 c1 ?_|refine zo3 c2 ?_)|(apply f_st;refine n_st ?_)|(apply zx1;refine zb1 ?_)|(apply f_no;refine za2 ?_)|(apply f_pk;refine zr1 (v:=.c _) ?_)|(apply f_ex;refine zs4 (v:=.c _) ?_)|refine n_al ?_|refine zh1 ?_)|(apply f_w;first|refine zo ?_|refine zc ?_)|refine za fun C=>?_|refine zd ?_|refine zg ?_|refine zq rfl ?_)
    refine zi ?_;refine ret0 rfl (zc2 (zj (zq1 (zd1 rfl (zd1 rfl (zd1 rfl ze1)))) (zj zy (zj zy zj1)))) ⟨?_,rfl⟩
    rfl
   ·rw [h2] at c2 ⊢
    dsimp only at c2 ⊢
    have c3:=ze4 (a:=1) (b:=m) (s:=⟨#[]⟩) (by omega)
    refine zi1 Tryz.func150 rfl rfl ?_
    cases hv:valOk 1 m ⟨#[]⟩ with
    | true =>
     rw [hv] at c3
     repeat' (first|(apply f_wo;first|(apply f_mv;first|(refine zs1 ?_ ?_<;>intro hG<;>(try cases hG))|refine zt (v:=.c _) ?_|refine zt (v:=.tu _) ?_)|(apply f_as;refine zu (v:=.c _) ?_)|(apply f_fa;refine n_fa ?_)|(apply f_ld;refine zq2 ?_)|(apply f_ca;first|refine zo3 c1 ?_|refine zo3 c2 ?_|refine zu1 c3 ?_)|(apply f_st;refine n_st ?_)|(apply zx1;refine zb1 ?_)|(apply f_no;refine za2 ?_)|(apply f_pk;refine zr1 (v:=.c _) ?_)|(apply f_ex;refine zs4 (v:=.c _) ?_)|refine n_al ?_|refine zh1 ?_)|(apply f_w;first|refine zo ?_|refine zc ?_)|refine za fun C=>?_|refine zd ?_|refine zg ?_|refine zk ?_|refine zq rfl ?_|refine zr rfl ?_)
     refine zi ?_;refine ret0 rfl (zc2 (zj (zq1 (zd1 rfl (zd1 rfl (zd1 rfl ze1)))) (zj zy (zj zy zj1)))) ⟨?_,rfl⟩
     rfl
    | false =>
     rw [hv] at c3
     repeat' (first|(apply f_wo;first|(apply f_mv;first|(refine zs1 ?_ ?_<;>intro hG<;>(try cases hG))|refine zt (v:=.c _) ?_|refine zt (v:=.tu _) ?_)|(apply f_as;refine zu (v:=.c _) ?_)|(apply f_fa;refine n_fa ?_)|(apply f_ld;refine zq2 ?_)|(apply f_ca;first|refine zo3 c1 ?_|refine zo3 c2 ?_|refine zu1 c3 ?_)|(apply f_st;refine n_st ?_)|(apply zx1;refine zb1 ?_)|(apply f_no;refine za2 ?_)|(apply f_pk;refine zr1 (v:=.c _) ?_)|(apply f_ex;refine zs4 (v:=.c _) ?_)|refine n_al ?_|refine zh1 ?_)|(apply f_w;first|refine zo ?_|refine zc ?_)|refine za fun C=>?_|refine zd ?_|refine zg ?_|refine zq rfl ?_)
     refine zi ?_;refine ret0 rfl (zc2 (zj (zq1 (zd1 rfl (zd1 rfl (zd1 rfl ze1)))) (zj zy (zj zy zj1)))) ⟨?_,rfl⟩
     rfl
  ·by_cases k2:k=2
   ·subst k2
    rw [show getVk bs (q:Int) 2=getV2 bs q from rfl]
    unfold getV2
    have c2:=zj8 (bs:=bs) (q:Int) (by omega) hn
    rcases zc10 bs q with h2|⟨m,p,h2,hp,hr⟩
    ·rw [h2] at c2 ⊢
     have c3:=ze4 (a:=2) (b:=0) (s:=⟨#[]⟩) (by omega)
     refine zi1 Tryz.func150 rfl rfl ?_
     repeat' (first|(apply f_wo;first|(apply f_gs;refine n_sk ?_)|(apply f_mv;first|(refine zs1 ?_ ?_<;>intro hG<;>(try cases hG))|refine zt (v:=.c _) ?_|refine zt (v:=.tu _) ?_)|(apply f_as;refine zu (v:=.c _) ?_)|(apply f_fa;refine n_fa ?_)|(apply f_ca;first|refine zo3 c1 ?_|refine zo3 c2 ?_)|(apply f_st;refine n_st ?_)|(apply zx1;refine zb1 ?_)|(apply f_no;refine za2 ?_)|(apply f_pk;refine zr1 (v:=.c _) ?_)|(apply f_ex;refine zs4 (v:=.c _) ?_)|refine n_al ?_|refine zh1 ?_)|(apply f_w;first|refine zo ?_|refine zc ?_)|refine za fun C=>?_|refine zd ?_|refine zg ?_|refine zq rfl ?_|refine zr rfl ?_)
     refine zi ?_;refine ret0 rfl (zc2 (zj (zq1 (zd1 rfl (zd1 rfl (zd1 rfl ze1)))) (zj zy (zj zy zj1)))) ⟨?_,rfl⟩
     rfl
    ·rw [h2] at c2 ⊢
     dsimp only at c2 ⊢
     have c3:=ze4 (a:=2) (b:=0) (s:=m) (by omega)
     refine zi1 Tryz.func150 rfl rfl ?_
     cases hv:valOk 2 0 m with
     | true =>
      rw [hv] at c3
      repeat' (first|(apply f_wo;first|(apply f_mv;first|(refine zs1 ?_ ?_<;>intro hG<;>(try cases hG))|refine zt (v:=.c _) ?_|refine zt (v:=.tu _) ?_)|(apply f_as;refine zu (v:=.c _) ?_)|(apply f_fa;refine n_fa ?_)|(apply f_ld;refine zq2 ?_)|(apply f_ca;first|refine zo3 c1 ?_|refine zo3 c2 ?_|refine zu1 c3 ?_)|(apply f_st;refine n_st ?_)|(apply zx1;refine zb1 ?_)|(apply f_no;refine za2 ?_)|(apply f_pk;refine zr1 (v:=.c _) ?_)|(apply f_ex;refine zs4 (v:=.c _) ?_)|refine n_al ?_|refine zh1 ?_)|(apply f_w;first|refine zo ?_|refine zc ?_)|refine za fun C=>?_|refine zd ?_|refine zg ?_|refine zk ?_|refine zq rfl ?_|refine zr rfl ?_)
      refine zi ?_;refine ret0 rfl (zc2 (zj (zq1 (zd1 rfl (zd1 rfl (zd1 rfl ze1)))) (zj zy (zj zy zj1)))) ⟨?_,rfl⟩
      rfl
     | false =>
      rw [hv] at c3
      repeat' (first|(apply f_wo;first|(apply f_mv;first|(refine zs1 ?_ ?_<;>intro hG<;>(try cases hG))|refine zt (v:=.c _) ?_|refine zt (v:=.tu _) ?_)|(apply f_as;refine zu (v:=.c _) ?_)|(apply f_fa;refine n_fa ?_)|(apply f_ld;refine zq2 ?_)|(apply f_ca;first|refine zo3 c1 ?_|refine zo3 c2 ?_|refine zu1 c3 ?_)|(apply f_st;refine n_st ?_)|(apply zx1;refine zb1 ?_)|(apply f_no;refine za2 ?_)|(apply f_pk;refine zr1 (v:=.c _) ?_)|(apply f_ex;refine zs4 (v:=.c _) ?_)|refine n_al ?_|refine zh1 ?_)|(apply f_w;first|refine zo ?_|refine zc ?_)|refine za fun C=>?_|refine zd ?_|refine zg ?_|refine zq rfl ?_|refine zr rfl ?_)
      refine zi ?_;refine ret0 rfl (zc2 (zj (zq1 (zd1 rfl (zd1 rfl (zd1 rfl ze1)))) (zj zy (zj zy zj1)))) ⟨?_,rfl⟩
      rfl
   ·have hk1:(k:Int)≠1:=by omega
    have hk2:(k:Int)≠2:=by omega
    have c3:=ze4 (a:=(k:Int)) (b:=0) (s:=⟨#[]⟩) (by omega)
    rw [show getVk bs (q:Int) k=if valOk k 0 ⟨#[]⟩ then ⟨k,0,⟨#[]⟩,q,true⟩ else gvbad by unfold getVk;rw [if_neg k1,if_neg k2]]
    refine zi1 Tryz.func150 rfl rfl ?_
    repeat' (first|(apply f_wo;first|(apply f_mv;first|refine zt (v:=.c _) ?_|refine zt (v:=.tu _) ?_)|(apply f_as;refine zu (v:=.c _) ?_)|(apply f_ca;refine zo3 c1 ?_)|(apply f_st;refine n_st ?_)|(apply zx1;refine zb1 ?_)|(apply f_ex;refine zs4 (v:=.c _) ?_)|refine n_al ?_|refine zh1 ?_)|(apply f_w;first|refine zo ?_|refine zc ?_)|refine za fun C=>?_|refine zd ?_|refine zg ?_)
    refine zn (by rfl) (fun hC=>absurd (eq_of_beq hC) hk1) fun hC=>?_
    repeat' (first|(apply f_wo;first|(apply f_as;refine zu (v:=.c _) ?_)|(apply zx1;refine zb1 ?_))|(apply f_w;first|refine zo ?_|refine zc ?_)|refine za fun C=>?_|refine zd ?_)
    refine zn (by rfl) (fun hC=>absurd (eq_of_beq hC) hk2) fun hC=>?_
    cases hv:valOk (k:Int) 0 ⟨#[]⟩ with
    | true =>
     rw [hv] at c3
     repeat' (first|(apply f_wo;first|(apply f_mv;first|(refine zs1 ?_ ?_<;>intro hG<;>(try cases hG))|refine zt (v:=.c _) ?_)|(apply f_as;refine zu (v:=.c _) ?_)|(apply f_ld;refine zq2 ?_)|(apply f_ca;refine zu1 c3 ?_)|(apply f_st;refine n_st ?_)|(apply f_no;refine za2 ?_)|(apply f_pk;refine zr1 (v:=.c _) ?_))|(apply f_w;first|refine zo ?_|refine zc ?_)|refine za fun C=>?_|refine zd ?_|refine zk ?_|refine zr rfl ?_)
     refine zi ?_;refine ret0 rfl (zc2 (zj (zq1 (zd1 rfl (zd1 rfl (zd1 rfl ze1)))) (zj zy (zj zy zj1)))) ⟨?_,rfl⟩
     rfl
    | false =>
     rw [hv] at c3
     repeat' (first|(apply f_wo;first|(apply f_mv;first|(refine zs1 ?_ ?_<;>intro hG<;>(try cases hG))|refine zt (v:=.c _) ?_)|(apply f_as;refine zu (v:=.c _) ?_)|(apply f_ld;refine zq2 ?_)|(apply f_ca;refine zu1 c3 ?_)|(apply f_st;refine n_st ?_)|(apply f_no;refine za2 ?_)|(apply f_pk;refine zr1 (v:=.c _) ?_)|refine zh1 ?_)|(apply f_w;first|refine zo ?_|refine zc ?_)|refine za fun C=>?_|refine zd ?_|refine zk ?_|refine zq rfl ?_)
     refine zi ?_;refine ret0 rfl (zc2 (zj (zq1 (zd1 rfl (zd1 rfl (zd1 rfl ze1)))) (zj zy (zj zy zj1)))) ⟨?_,rfl⟩
     rfl
end Go.Proofs.YtghljnfbbaklnaaGreat
