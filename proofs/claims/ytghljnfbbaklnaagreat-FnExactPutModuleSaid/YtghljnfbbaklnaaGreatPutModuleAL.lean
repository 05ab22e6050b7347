/- Lists of Ins: the first that .., whether one is among them: by the abstract machine. -/
import Derived.Test.YtghljnfbbaklnaaGreatPutModuleAK
namespace Go.Proofs.YtghljnfbbaklnaaGreat
open Go.RowKit
set_option maxRecDepth 100000
theorem idx0Ins_c {l:List E}(hl:∀e∈l,e.Ty Tryz.prog 82)(hk:∀e∈l,e.enc.length=2)(hlen:l.length≤1073741824)(p:E→Bool)(f:FuncId)(hc:∀x∈l,Ctr Tryz.prog f (.ag (acE x) :: []) [] (.c (.v (.bool (p x)))) []):Ctr Tryz.prog 166 [.c (.ro l.length 2 (acL l)),.c (.fn f [])] [] (.c (.v (.int .i64 (idxF p l)))) []:=by
 refine zo2 Tryz.func166 rfl rfl ?_
 repeat (first|refine zh ?_|refine zd ?_|refine zf ?_|refine zg ?_|refine zu ?_|refine zb fun C=>?_|refine zj (by kernel_rfl) (by kernel_rfl) fun C=>?_|refine zc ?_|refine zc4 ?_|refine x_bs ?_|refine x_gr ?_|refine x_st ?_|refine x_mv ?_|refine x_sk ?_|refine zn4 ?_|refine x_ix ?_|refine zo4 ?_|refine zp4 ?_|refine ze4 ?_|refine zj3 ?_|refine x_ld ?_)
 refine ze3 (fun k:Nat=>⟨tmsF [(0,.c (.ro l.length 2 (acL l))),(1,.c (.fn f [])),(7,.c (.v (.int .i64 l.length))),(8,.c (.v (.int .i64 k)))],hpsF [],0,[],19⟩)
  (fun N k=>k+N=l.length∧∀j y,j<k→l[j]? = some y→p y=false) l.length 0 ⟨by omega,by omega⟩ ?_ ?_
 ·(refine zr2 _ _ rfl rfl ?_ ?_<;>(repeat' (first|exact TmOk.nil|exact RwOk.nil|refine TmOk.cons ?_ ?_|refine RwOk.cons ?_ ?_|rfl|(refine rnV_id' rfl ?_;exact byc)|(refine zv2 ?_;first|rfl|omega|(rw [zv1 (by omega) (by omega)];omega))|(refine zl1 rfl ?_;exact byc)|exact zz3 rfl rfl|(refine zw2 (by rfl) (by rfl) ?_ ?_<;>exact byc)|(refine rw_rn' rfl rfl ?_;simp;done))))
 rintro N k ⟨hN,hno⟩
 repeat (first|refine zh ?_|refine zd ?_|refine zf ?_|refine zg ?_|refine zu ?_|refine zb fun C=>?_|refine zj (by kernel_rfl) (by kernel_rfl) fun C=>?_|refine zc ?_|refine zc4 ?_|refine x_bs ?_|refine x_gr ?_|refine x_st ?_|refine x_mv ?_|refine x_sk ?_|refine zn4 ?_|refine x_ix ?_|refine zo4 ?_|refine zp4 ?_|refine ze4 ?_|refine zj3 ?_|refine x_ld ?_)
 refine zd4 (by rfl) (fun h1=>?_) fun h1=>?_
 ·have hk':k<l.length:=by simpa using h1
  obtain⟨x,hx⟩:∃x,l[k]? = some x:=⟨_,List.getElem?_eq_getElem hk'⟩
  have hxt:=hl x (List.mem_of_getElem? hx)
  have hcc:=hc x (List.mem_of_getElem? hx)
  obtain⟨y0,y1,rfl,gy0,gy1,-⟩:=zh4 hxt
  repeat (first|refine zh ?_|refine zd ?_|refine zf ?_|refine zg ?_|refine zu ?_|refine zb fun C=>?_|refine zj (by kernel_rfl) (by kernel_rfl) fun C=>?_|refine zc ?_|refine zc4 ?_|refine x_bs ?_|refine x_gr ?_|refine x_st ?_|refine x_mv ?_|refine x_sk ?_|refine zn4 ?_|refine x_ix ?_|refine zo4 ?_|refine zp4 ?_|refine ze4 ?_|refine zj3 ?_|refine x_ld ?_)
  refine zm7 hcc ?_
  repeat (first|refine zh ?_|refine zd ?_|refine zf ?_|refine zg ?_|refine zu ?_|refine zb fun C=>?_|refine zj (by kernel_rfl) (by kernel_rfl) fun C=>?_|refine zc ?_|refine zc4 ?_|refine x_bs ?_|refine x_gr ?_|refine x_st ?_|refine x_mv ?_|refine x_sk ?_|refine zn4 ?_|refine x_ix ?_|refine zo4 ?_|refine zp4 ?_|refine ze4 ?_|refine zj3 ?_|refine x_ld ?_)
  refine zd4 (by rfl) (fun h2=>?_) fun h2=>?_
  ·repeat (first|refine zh ?_|refine zd ?_|refine zf ?_|refine zg ?_|refine zu ?_|refine zb fun C=>?_|refine zj (by kernel_rfl) (by kernel_rfl) fun C=>?_|refine zc ?_|refine zc4 ?_|refine x_bs ?_|refine x_gr ?_|refine x_st ?_|refine x_mv ?_|refine x_sk ?_|refine zn4 ?_|refine x_ix ?_|refine zo4 ?_|refine zp4 ?_|refine ze4 ?_|refine zj3 ?_|refine x_ld ?_)
   refine ret0 (x:=.c (.v (.int .i64 k))) rfl zf3 ⟨?_,rfl⟩
   rw [zv11 hno hx h2]
  ·repeat (first|refine zh ?_|refine zd ?_|refine zf ?_|refine zg ?_|refine zu ?_|refine zb fun C=>?_|refine zj (by kernel_rfl) (by kernel_rfl) fun C=>?_|refine zc ?_|refine zc4 ?_|refine x_bs ?_|refine x_gr ?_|refine x_st ?_|refine x_mv ?_|refine x_sk ?_|refine zn4 ?_|refine x_ix ?_|refine zo4 ?_|refine zp4 ?_|refine ze4 ?_|refine zj3 ?_|refine x_ld ?_)
   refine⟨N-1,k+1,by omega,⟨by omega,fun j z hj hz=>?_⟩,?_⟩
   ·by_cases e:j=k
    ·rw [e,hx] at hz;injection hz with hz;subst hz;exact h2
    ·exact hno j z (by omega) hz
   ·(refine zr2 _ _ rfl rfl ?_ ?_<;>(repeat' (first|exact TmOk.nil|exact RwOk.nil|refine TmOk.cons ?_ ?_|refine RwOk.cons ?_ ?_|rfl|(refine rnV_id' rfl ?_;exact byc)|(refine zv2 ?_;first|rfl|omega|(rw [zv1 (by omega) (by omega)];omega))|(refine zl1 rfl ?_;exact byc)|exact zz3 rfl rfl|(refine zw2 (by rfl) (by rfl) ?_ ?_<;>exact byc)|(refine rw_rn' rfl rfl ?_;simp;done))))
 ·have hk':¬k<l.length:=by simpa using h1
  repeat (first|refine zh ?_|refine zd ?_|refine zf ?_|refine zg ?_|refine zu ?_|refine zb fun C=>?_|refine zj (by kernel_rfl) (by kernel_rfl) fun C=>?_|refine zc ?_|refine zc4 ?_|refine x_bs ?_|refine x_gr ?_|refine x_st ?_|refine x_mv ?_|refine x_sk ?_|refine zn4 ?_|refine x_ix ?_|refine zo4 ?_|refine zp4 ?_|refine ze4 ?_|refine zj3 ?_|refine x_ld ?_)
  refine ret0 (x:=.c (.v (.int .i64 (-1)))) rfl zf3 ⟨?_,rfl⟩
  rw [zh7 fun j y hj hy=>hno j y (by omega) hy]
theorem con0Ins_c {l:List E}(hl:∀e∈l,e.Ty Tryz.prog 82)(hk:∀e∈l,e.enc.length=2)(hlen:l.length≤1073741824)(p:E→Bool)(f:FuncId)(hc:∀x∈l,Ctr Tryz.prog f (.ag (acE x) :: []) [] (.c (.v (.bool (p x)))) []):Ctr Tryz.prog 109 [.c (.ro l.length 2 (acL l)),.c (.fn f [])] [] (.c (.v (.bool (l.any p)))) []:=by
 refine zo2 Tryz.func109 rfl rfl ?_
 have hcc:=idx0Ins_c hl hk hlen p f hc
 repeat (first|refine zh ?_|refine zd ?_|refine zf ?_|refine zg ?_|refine zu ?_|refine zb fun C=>?_|refine zj (by kernel_rfl) (by kernel_rfl) fun C=>?_|refine zc ?_|refine zc4 ?_|refine x_bs ?_|refine x_gr ?_|refine x_st ?_|refine x_mv ?_|refine x_sk ?_|refine zn4 ?_|refine x_ix ?_|refine zo4 ?_|refine zp4 ?_|refine ze4 ?_|refine zj3 ?_|refine x_ld ?_)
 refine zm7 hcc ?_
 repeat (first|refine zh ?_|refine zd ?_|refine zf ?_|refine zg ?_|refine zu ?_|refine zb fun C=>?_|refine zj (by kernel_rfl) (by kernel_rfl) fun C=>?_|refine zc ?_|refine zc4 ?_|refine x_bs ?_|refine x_gr ?_|refine x_st ?_|refine x_mv ?_|refine x_sk ?_|refine zn4 ?_|refine x_ix ?_|refine zo4 ?_|refine zp4 ?_|refine ze4 ?_|refine zj3 ?_|refine x_ld ?_)
 refine ret0 (x:=.c (.v (.bool (decide (idxF p l ≥ 0))))) rfl zf3 ⟨?_,rfl⟩
 rw [zd9]
theorem zb17 {l:List E}(hl:∀e∈l,e.Ty Tryz.prog 9)(hk:∀e∈l,e.enc.length=1)(hlen:l.length≤1073741824)(p:E→Bool)(f:FuncId)(hc:∀x∈l,Ctr Tryz.prog f (.c (.v (.string (strB x))) :: []) [] (.c (.v (.bool (p x)))) []):Ctr Tryz.prog 164 [.c (.ro l.length 1 (acL l)),.c (.fn f [])] [] (.c (.v (.int .i64 (idxF p l)))) []:=by
 refine zo2 Tryz.func164 rfl rfl ?_
 repeat (first|refine zh ?_|refine zd ?_|refine zf ?_|refine zg ?_|refine zu ?_|refine zb fun C=>?_|refine zj (by kernel_rfl) (by kernel_rfl) fun C=>?_|refine zc ?_|refine zc4 ?_|refine x_bs ?_|refine x_gr ?_|refine x_st ?_|refine x_mv ?_|refine x_sk ?_|refine zn4 ?_|refine x_ix ?_|refine zo4 ?_|refine zp4 ?_|refine ze4 ?_|refine zj3 ?_|refine x_ld ?_)
 refine ze3 (fun k:Nat=>⟨tmsF [(0,.c (.ro l.length 1 (acL l))),(1,.c (.fn f [])),(7,.c (.v (.int .i64 l.length))),(8,.c (.v (.int .i64 k)))],hpsF [],0,[],19⟩)
  (fun N k=>k+N=l.length∧∀j y,j<k→l[j]? = some y→p y=false) l.length 0 ⟨by omega,by omega⟩ ?_ ?_
 ·(refine zr2 _ _ rfl rfl ?_ ?_<;>(repeat' (first|exact TmOk.nil|exact RwOk.nil|refine TmOk.cons ?_ ?_|refine RwOk.cons ?_ ?_|rfl|(refine rnV_id' rfl ?_;exact byc)|(refine zv2 ?_;first|rfl|omega|(rw [zv1 (by omega) (by omega)];omega))|(refine zl1 rfl ?_;exact byc)|exact zz3 rfl rfl|(refine zw2 (by rfl) (by rfl) ?_ ?_<;>exact byc)|(refine rw_rn' rfl rfl ?_;simp;done))))
 rintro N k ⟨hN,hno⟩
 repeat (first|refine zh ?_|refine zd ?_|refine zf ?_|refine zg ?_|refine zu ?_|refine zb fun C=>?_|refine zj (by kernel_rfl) (by kernel_rfl) fun C=>?_|refine zc ?_|refine zc4 ?_|refine x_bs ?_|refine x_gr ?_|refine x_st ?_|refine x_mv ?_|refine x_sk ?_|refine zn4 ?_|refine x_ix ?_|refine zo4 ?_|refine zp4 ?_|refine ze4 ?_|refine zj3 ?_|refine x_ld ?_)
 refine zd4 (by rfl) (fun h1=>?_) fun h1=>?_
 ·have hk':k<l.length:=by simpa using h1
  obtain⟨x,hx⟩:∃x,l[k]? = some x:=⟨_,List.getElem?_eq_getElem hk'⟩
  have hxt:=hl x (List.mem_of_getElem? hx)
  have hcc:=hc x (List.mem_of_getElem? hx)
  obtain⟨y0,rfl,-⟩:=hxt.str_ Tryz.underlying9
  repeat (first|refine zh ?_|refine zd ?_|refine zf ?_|refine zg ?_|refine zu ?_|refine zb fun C=>?_|refine zj (by kernel_rfl) (by kernel_rfl) fun C=>?_|refine zc ?_|refine zc4 ?_|refine x_bs ?_|refine x_gr ?_|refine x_st ?_|refine x_mv ?_|refine x_sk ?_|refine zn4 ?_|refine x_ix ?_|refine zo4 ?_|refine zp4 ?_|refine ze4 ?_|refine zj3 ?_|refine x_ld ?_)
  refine zm7 hcc ?_
  repeat (first|refine zh ?_|refine zd ?_|refine zf ?_|refine zg ?_|refine zu ?_|refine zb fun C=>?_|refine zj (by kernel_rfl) (by kernel_rfl) fun C=>?_|refine zc ?_|refine zc4 ?_|refine x_bs ?_|refine x_gr ?_|refine x_st ?_|refine x_mv ?_|refine x_sk ?_|refine zn4 ?_|refine x_ix ?_|refine zo4 ?_|refine zp4 ?_|refine ze4 ?_|refine zj3 ?_|refine x_ld ?_)
  refine zd4 (by rfl) (fun h2=>?_) fun h2=>?_
  ·repeat (first|refine zh ?_|refine zd ?_|refine zf ?_|refine zg ?_|refine zu ?_|refine zb fun C=>?_|refine zj (by kernel_rfl) (by kernel_rfl) fun C=>?_|refine zc ?_|refine zc4 ?_|refine x_bs ?_|refine x_gr ?_|refine x_st ?_|refine x_mv ?_|refine x_sk ?_|refine zn4 ?_|refine x_ix ?_|refine zo4 ?_|refine zp4 ?_|refine ze4 ?_|refine zj3 ?_|refine x_ld ?_)
   refine ret0 (x:=.c (.v (.int .i64 k))) rfl zf3 ⟨?_,rfl⟩
   rw [zv11 hno hx h2]
  ·repeat (first|refine zh ?_|refine zd ?_|refine zf ?_|refine zg ?_|refine zu ?_|refine zb fun C=>?_|refine zj (by kernel_rfl) (by kernel_rfl) fun C=>?_|refine zc ?_|refine zc4 ?_|refine x_bs ?_|refine x_gr ?_|refine x_st ?_|refine x_mv ?_|refine x_sk ?_|refine zn4 ?_|refine x_ix ?_|refine zo4 ?_|refine zp4 ?_|refine ze4 ?_|refine zj3 ?_|refine x_ld ?_)
   refine⟨N-1,k+1,by omega,⟨by omega,fun j z hj hz=>?_⟩,?_⟩
   ·by_cases e:j=k
    ·rw [e,hx] at hz;injection hz with hz;subst hz;exact h2
    ·exact hno j z (by omega) hz
   ·(refine zr2 _ _ rfl rfl ?_ ?_<;>(repeat' (first|exact TmOk.nil|exact RwOk.nil|refine TmOk.cons ?_ ?_|refine RwOk.cons ?_ ?_|rfl|(refine rnV_id' rfl ?_;exact byc)|(refine zv2 ?_;first|rfl|omega|(rw [zv1 (by omega) (by omega)];omega))|(refine zl1 rfl ?_;exact byc)|exact zz3 rfl rfl|(refine zw2 (by rfl) (by rfl) ?_ ?_<;>exact byc)|(refine rw_rn' rfl rfl ?_;simp;done))))
 ·have hk':¬k<l.length:=by simpa using h1
  repeat (first|refine zh ?_|refine zd ?_|refine zf ?_|refine zg ?_|refine zu ?_|refine zb fun C=>?_|refine zj (by kernel_rfl) (by kernel_rfl) fun C=>?_|refine zc ?_|refine zc4 ?_|refine x_bs ?_|refine x_gr ?_|refine x_st ?_|refine x_mv ?_|refine x_sk ?_|refine zn4 ?_|refine x_ix ?_|refine zo4 ?_|refine zp4 ?_|refine ze4 ?_|refine zj3 ?_|refine x_ld ?_)
  refine ret0 (x:=.c (.v (.int .i64 (-1)))) rfl zf3 ⟨?_,rfl⟩
  rw [zh7 fun j y hj hy=>hno j y (by omega) hy]
theorem zc17 {l:List E}(hl:∀e∈l,e.Ty Tryz.prog 9)(hk:∀e∈l,e.enc.length=1)(hlen:l.length≤1073741824)(p:E→Bool)(f:FuncId)(hc:∀x∈l,Ctr Tryz.prog f (.c (.v (.string (strB x))) :: []) [] (.c (.v (.bool (p x)))) []):Ctr Tryz.prog 106 [.c (.ro l.length 1 (acL l)),.c (.fn f [])] [] (.c (.v (.bool (l.any p)))) []:=by
 refine zo2 Tryz.func106 rfl rfl ?_
 have hcc:=zb17 hl hk hlen p f hc
 repeat (first|refine zh ?_|refine zd ?_|refine zf ?_|refine zg ?_|refine zu ?_|refine zb fun C=>?_|refine zj (by kernel_rfl) (by kernel_rfl) fun C=>?_|refine zc ?_|refine zc4 ?_|refine x_bs ?_|refine x_gr ?_|refine x_st ?_|refine x_mv ?_|refine x_sk ?_|refine zn4 ?_|refine x_ix ?_|refine zo4 ?_|refine zp4 ?_|refine ze4 ?_|refine zj3 ?_|refine x_ld ?_)
 refine zm7 hcc ?_
 repeat (first|refine zh ?_|refine zd ?_|refine zf ?_|refine zg ?_|refine zu ?_|refine zb fun C=>?_|refine zj (by kernel_rfl) (by kernel_rfl) fun C=>?_|refine zc ?_|refine zc4 ?_|refine x_bs ?_|refine x_gr ?_|refine x_st ?_|refine x_mv ?_|refine x_sk ?_|refine zn4 ?_|refine x_ix ?_|refine zo4 ?_|refine zp4 ?_|refine ze4 ?_|refine zj3 ?_|refine x_ld ?_)
 refine ret0 (x:=.c (.v (.bool (decide (idxF p l ≥ 0))))) rfl zf3 ⟨?_,rfl⟩
 rw [zd9]
end Go.Proofs.YtghljnfbbaklnaaGreat
