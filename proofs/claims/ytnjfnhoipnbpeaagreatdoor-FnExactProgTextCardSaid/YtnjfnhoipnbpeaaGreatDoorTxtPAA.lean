/- Names and heads of terms: contracts of both sides. Printed by gen_prog.py. -/
import Derived.Test.YtnjfnhoipnbpeaaGreatDoorTxtPZ
namespace Go.Proofs.YtnjfnhoipnbpeaaGreatDoor
open Go.RowKit
set_option maxRecDepth 100000
theorem zf20 {ns:List ByteArray}(h:∀s∈ns,s.size≤9223372036854775807):∀e∈strsL ns,e.Ty Tryz.prog 9:=fun e he=>by
 obtain⟨s,hs,rfl⟩:=List.mem_map.1 he
 have:=h s hs
 simp only [E.Ty];exact⟨Tryz.underlying9,by unfold maxLen;omega⟩
theorem zf16 {ns:List ByteArray}:∀e∈strsL ns,e.enc.length=1:=fun e he=>by obtain⟨x,-,rfl⟩:=List.mem_map.1 he;rfl
theorem kwL_Ty:∀e∈kwL,e.Ty Tryz.prog 9:=zf20 (by decide)
theorem opL2_Ty:∀e∈opL2,e.Ty Tryz.prog 9:=zf20 (by decide)
theorem zr18 {l:List E}(hl:∀e∈l,e.Ty Tryz.prog 9)(hlen:l.length≤1048576)(s:ByteArray):Ctr Tryz.prog 53 [.c (.ro l.length 1 (acL l)),.c (.v (.string s))] [] (.c (.v (.bool (hasB l s)))) []:=by
 have hk:∀e∈l,e.enc.length=1:=fun e he=>by obtain⟨x,rfl,-⟩:=(hl e he).str_ Tryz.underlying9;rfl
 refine ze1 Tryz.func53 rfl rfl ?_
 repeat' (first|(apply f_wo;(apply f_as;refine zq (v:=.c _) ?_))|(apply f_w;first|refine zj ?_|refine zb ?_)|refine za fun C=>?_|refine zd ?_|refine ze ?_)
 refine zv1 (fun k:Nat=>⟨tmsF [(0,.c (.ro l.length 1 (acL l))),(1,.c (.v (.string s))),(5,.c (.v (.int .i64 (k:Int))))],hpsF [],0,[],18⟩)
  (fun N k=>k+N=l.length∧∀j y,j<k→l[j]? = some y→(s.toList==(strB y).toList)=false) l.length 0 ⟨by omega,fun j y hj=>absurd hj (Nat.not_lt_zero j)⟩ ?_ ?_
 ·(refine zl1 _ _ rfl rfl ?_ ?_<;>(repeat' (first|exact TmOk.nil|exact RwOk.nil|refine TmOk.cons ?_ ?_|refine RwOk.cons ?_ ?_|rfl|(refine rnV_id' rfl ?_;exact byc)|(refine zp1 ?_;first|rfl|omega|(rw [zw (by omega) (by omega)];omega))|(refine zb1 rfl ?_;exact byc)|exact zc2 rfl rfl|(refine zq1 (by rfl) (by rfl) ?_ ?_<;>exact byc)|(refine rw_rn' rfl rfl ?_;simp;done))))
 rintro N k ⟨hN,hr⟩
 try dsimp only
 repeat' (first|(apply f_wo;first|(apply f_mv;refine zv (v:=.c _) ?_)|(apply f_bi;refine zy1 ?_)|(apply zg3;refine zs1 ?_))|(apply f_w;first|refine zj ?_|refine zb ?_)|refine za fun C=>?_|refine zd ?_)
 refine zi (by rfl) (fun h1=>?_) fun h1=>?_
 ·have hk':k<l.length:=by simpa using h1
  obtain⟨x,hx⟩:∃x,l[k]? = some x:=⟨_,List.getElem?_eq_getElem hk'⟩
  obtain⟨z,rfl,-⟩:=(hl x (List.mem_of_getElem? hx)).str_ Tryz.underlying9
  repeat' (first|(apply f_wo;first|(apply f_mv;refine zv (v:=.c _) ?_)|(apply f_ld;refine zz3 ?_)|(apply f_ia;refine n_ix ?_)|(apply zr1;refine zr2 ?_))|(apply f_w;first|refine zj ?_|refine zb ?_)|refine za fun C=>?_|refine zd ?_|refine ze ?_|refine zg ?_)
  refine zi (by rfl) (fun hC=>?_) fun hC=>?_
  ·have e:hasB l s=true:=List.any_eq_true.2 ⟨_,List.mem_of_getElem? hx,by rw [beq_iff_eq] at hC ⊢;exact hC.symm⟩
   rw [e]
   repeat' (first|(apply f_wo;(apply f_as;refine zq (v:=.c _) ?_))|(apply f_w;first|refine zj ?_|refine zb ?_)|refine za fun C=>?_|refine zd ?_)
   refine zh ?_;refine ret0 rfl zg1 ⟨?_,rfl⟩;rfl
  ·repeat' (first|(apply f_wo;first|(apply f_mv;refine zv (v:=.c _) ?_)|(apply f_as;refine zq (v:=.c _) ?_)|(apply zd2;refine zj1 ?_))|(apply f_w;first|refine zj ?_|refine zb ?_)|refine za fun C=>?_|refine zg ?_)
   refine⟨N-1,k+1,by omega,⟨by omega,fun j y hj hy=>?_⟩,?_⟩
   ·by_cases e:j=k
    ·rw [e,hx] at hy;injection hy with hy;subst hy
     cases hb:(s.toList==(strB (E.str z)).toList) with
     | false=>rfl
     | true=>rw [beq_iff_eq] at hb;rw [←hC];exact (beq_iff_eq.2 hb.symm).symm
    ·exact hr j y (by omega) hy
   ·(refine zl1 _ _ rfl rfl ?_ ?_<;>(repeat' (first|exact TmOk.nil|exact RwOk.nil|refine TmOk.cons ?_ ?_|refine RwOk.cons ?_ ?_|rfl|(refine rnV_id' rfl ?_;exact byc)|(refine zp1 ?_;first|rfl|omega|(rw [zw (by omega) (by omega)];omega))|(refine zb1 rfl ?_;exact byc)|exact zc2 rfl rfl|(refine zq1 (by rfl) (by rfl) ?_ ?_<;>exact byc)|(refine rw_rn' rfl rfl ?_;simp;done))))
 ·have hk':¬k<l.length:=by simpa using h1
  have e:hasB l s=false:=by
   cases hb:hasB l s with
   | false=>rfl
   | true =>
    obtain⟨x,hx,hp⟩:=List.any_eq_true.1 hb
    obtain⟨j,hj⟩:=List.getElem?_of_mem hx
    have:=(List.getElem?_eq_some_iff.1 hj).1
    rw [hr j x (by omega) hj] at hp;cases hp
  rw [e]
  repeat' (first|(apply f_wo;(apply f_as;refine zq (v:=.c _) ?_))|(apply f_w;first|refine zj ?_|refine zb ?_)|refine za fun C=>?_|refine zd ?_|refine zu ?_)
  refine zh ?_;refine ret0 rfl zg1 ⟨?_,rfl⟩;rfl
theorem l8Words_c:Ctr Tryz.prog 54 [] [] (.c (.ow 9 kwL.length 1 (acL kwL))) []:=by
 refine ze1 Tryz.func54 rfl rfl ?_
 repeat' (first|(apply f_wo;first|(apply f_as;refine zq (v:=.c _) ?_)|refine n_bs ?_)|(apply f_w;first|refine zj ?_|refine zb ?_)|refine za fun C=>?_|refine zd ?_)
 refine zh ?_
 refine ret0 rfl (clV_c (zp2 rfl rfl rfl (by rfl) zf2)) ⟨?_,rfl⟩
 rfl
theorem l8Ops_c:Ctr Tryz.prog 110 [] [] (.c (.ow 9 opL2.length 1 (acL opL2))) []:=by
 refine ze1 Tryz.func110 rfl rfl ?_
 repeat' (first|(apply f_wo;first|(apply f_as;refine zq (v:=.c _) ?_)|refine n_bs ?_)|(apply f_w;first|refine zj ?_|refine zb ?_)|refine za fun C=>?_|refine zd ?_)
 refine zh ?_
 refine ret0 rfl (clV_c (zp2 rfl rfl rfl (by rfl) zf2)) ⟨?_,rfl⟩
 rfl
theorem binOps_c:Ctr Tryz.prog 115 [] [] (.c (.ow 9 opL2.length 1 (acL opL2))) []:=by
 refine ze1 Tryz.func115 rfl rfl ?_
 repeat' (first|(apply f_wo;first|(apply f_as;refine zq (v:=.c _) ?_)|refine n_bs ?_)|(apply f_w;first|refine zj ?_|refine zb ?_)|refine za fun C=>?_|refine zd ?_)
 refine zh ?_
 refine ret0 rfl (clV_c (zp2 rfl rfl rfl (by rfl) zf2)) ⟨?_,rfl⟩
 rfl
theorem zr3 {s:ByteArray}(hs:s.size≤1048576):Ctr Tryz.prog 64 [.c (.v (.string s))] [] (.c (.v (.bool (nameK s)))) []:=by
 have c1:=isName_c hs
 have c2:Ctr Tryz.prog 65 [.c (.ro kwL.length 1 (acL kwL)),.c (.v (.string s))] [] (.c (.v (.bool (hasB kwL s)))) []:=zg7 kwL_Ty zf16 (by decide) s
 unfold nameK
 generalize nameW s=b1 at c1 ⊢
 generalize hasB kwL s=b2 at c2 ⊢
 cases b1
 all_goals
  refine ze1 Tryz.func64 rfl rfl ?_
  repeat' (first|(apply f_wo;first|(apply f_gs;refine n_sk ?_)|(apply f_mv;first|(refine zx1 ?_ ?_<;>intro hG<;>(try cases hG))|refine zv (v:=.c _) ?_)|(apply f_as;refine zq (v:=.c _) ?_)|(apply f_ca;first|refine zk1 c1 ?_|refine zk1 c2 ?_)|(apply f_no;refine zu2 ?_)|(apply f_pk;refine zw1 (v:=.c _) ?_)|refine n_bs ?_)|(apply f_w;first|refine zj ?_|refine zb ?_)|refine za fun C=>?_|refine zd ?_)
  refine zh ?_;refine ret0 rfl zg1 ⟨?_,rfl⟩;rfl
theorem zm3 {s:ByteArray}(hs:s.size≤1048576):Ctr Tryz.prog 25 [.c (.v (.string s))] [] (.c (.v (.bool (nameK s)))) []:=by
 have c1:=l7Word_c hs
 have c2:=zr18 kwL_Ty (by decide) s
 have c3:=l8Words_c
 unfold nameK
 generalize nameW s=b1 at c1 ⊢
 generalize hasB kwL s=b2 at c2 ⊢
 cases b1
 all_goals
  refine ze1 Tryz.func25 rfl rfl ?_
  repeat' (first|(apply f_wo;first|(apply f_gs;refine n_sk ?_)|(apply f_mv;first|(refine zx1 ?_ ?_<;>intro hG<;>(try cases hG))|refine zv (v:=.c _) ?_)|(apply f_as;refine zq (v:=.c _) ?_)|(apply f_ca;first|refine zk1 c1 ?_|refine zk1 c2 ?_|refine n_cak c3 ?_)|(apply f_no;refine zu2 ?_)|(apply f_pk;refine zw1 (v:=.c _) ?_))|(apply f_w;first|refine zj ?_|refine zb ?_)|refine za fun C=>?_|refine zd ?_)
  refine zh ?_;refine ret0 rfl zg1 ⟨?_,rfl⟩;rfl
end Go.Proofs.YtnjfnhoipnbpeaaGreatDoor
