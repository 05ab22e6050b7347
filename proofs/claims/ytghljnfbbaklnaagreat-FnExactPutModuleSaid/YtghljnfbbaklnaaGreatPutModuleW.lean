/- Lists of int: the first that .., whether one is among them: by the abstract machine. -/
import Derived.Test.YtghljnfbbaklnaaGreatPutModuleV
namespace Go.Proofs.YtghljnfbbaklnaaGreat
open Go.RowKit
set_option maxRecDepth 100000
def intE:E→Int
 | .int _ z=>z
 | _=>0
theorem indInt_c {l:List E}(hl:∀e∈l,e.Ty Tryz.prog 3)(hk:∀e∈l,e.enc.length=1)(hlen:l.length≤1073741824)(v:Int):Ctr Tryz.prog 234 [.c (.ro l.length 1 (acL l)),.c (.v (.int .i64 v))] [] (.c (.v (.int .i64 (idxF (fun e=>v==intE e) l)))) []:=by
 refine zo2 Tryz.func234 rfl rfl ?_
 repeat (first|refine zh ?_|refine zd ?_|refine zf ?_|refine zg ?_|refine zu ?_|refine zb fun C=>?_|refine zj (by kernel_rfl) (by kernel_rfl) fun C=>?_|refine zc ?_|refine zc4 ?_|refine x_bs ?_|refine x_gr ?_|refine x_st ?_|refine x_mv ?_|refine x_sk ?_|refine zn4 ?_|refine x_ix ?_|refine zo4 ?_|refine zp4 ?_|refine ze4 ?_|refine zj3 ?_|refine x_ld ?_)
 refine ze3 (fun k:Nat=>⟨tmsF [(0,.c (.ro l.length 1 (acL l))),(1,.c (.v (.int .i64 v))),(7,.c (.v (.int .i64 l.length))),(8,.c (.v (.int .i64 k)))],hpsF [],0,[],19⟩)
  (fun N k=>k+N=l.length∧∀j y,j<k→l[j]? = some y→(fun e=>v==intE e) y=false) l.length 0 ⟨by omega,by omega⟩ ?_ ?_
 ·(refine zr2 _ _ rfl rfl ?_ ?_<;>(repeat' (first|exact TmOk.nil|exact RwOk.nil|refine TmOk.cons ?_ ?_|refine RwOk.cons ?_ ?_|rfl|(refine rnV_id' rfl ?_;exact byc)|(refine zv2 ?_;first|rfl|omega|(rw [zv1 (by omega) (by omega)];omega))|(refine zl1 rfl ?_;exact byc)|exact zz3 rfl rfl|(refine zw2 (by rfl) (by rfl) ?_ ?_<;>exact byc)|(refine rw_rn' rfl rfl ?_;simp;done))))
 rintro N k ⟨hN,hno⟩
 repeat (first|refine zh ?_|refine zd ?_|refine zf ?_|refine zg ?_|refine zu ?_|refine zb fun C=>?_|refine zj (by kernel_rfl) (by kernel_rfl) fun C=>?_|refine zc ?_|refine zc4 ?_|refine x_bs ?_|refine x_gr ?_|refine x_st ?_|refine x_mv ?_|refine x_sk ?_|refine zn4 ?_|refine x_ix ?_|refine zo4 ?_|refine zp4 ?_|refine ze4 ?_|refine zj3 ?_|refine x_ld ?_)
 refine zd4 (by rfl) (fun h1=>?_) fun h1=>?_
 ·have hk':k<l.length:=by simpa using h1
  obtain⟨x,hx⟩:∃x,l[k]? = some x:=⟨_,List.getElem?_eq_getElem hk'⟩
  have hxt:=hl x (List.mem_of_getElem? hx)
  obtain⟨y0,rfl,-⟩:=hxt.int_ Tryz.underlying3
  repeat (first|refine zh ?_|refine zd ?_|refine zf ?_|refine zg ?_|refine zu ?_|refine zb fun C=>?_|refine zj (by kernel_rfl) (by kernel_rfl) fun C=>?_|refine zc ?_|refine zc4 ?_|refine x_bs ?_|refine x_gr ?_|refine x_st ?_|refine x_mv ?_|refine x_sk ?_|refine zn4 ?_|refine x_ix ?_|refine zo4 ?_|refine zp4 ?_|refine ze4 ?_|refine zj3 ?_|refine x_ld ?_)
  refine zd4 (by rfl) (fun h2=>?_) fun h2=>?_
  ·repeat (first|refine zh ?_|refine zd ?_|refine zf ?_|refine zg ?_|refine zu ?_|refine zb fun C=>?_|refine zj (by kernel_rfl) (by kernel_rfl) fun C=>?_|refine zc ?_|refine zc4 ?_|refine x_bs ?_|refine x_gr ?_|refine x_st ?_|refine x_mv ?_|refine x_sk ?_|refine zn4 ?_|refine x_ix ?_|refine zo4 ?_|refine zp4 ?_|refine ze4 ?_|refine zj3 ?_|refine x_ld ?_)
   refine ret0 (x:=.c (.v (.int .i64 k))) rfl zf3 ⟨?_,rfl⟩
   rw [zv11 hno hx (by simpa [intE,strB] using h2)]
  ·repeat (first|refine zh ?_|refine zd ?_|refine zf ?_|refine zg ?_|refine zu ?_|refine zb fun C=>?_|refine zj (by kernel_rfl) (by kernel_rfl) fun C=>?_|refine zc ?_|refine zc4 ?_|refine x_bs ?_|refine x_gr ?_|refine x_st ?_|refine x_mv ?_|refine x_sk ?_|refine zn4 ?_|refine x_ix ?_|refine zo4 ?_|refine zp4 ?_|refine ze4 ?_|refine zj3 ?_|refine x_ld ?_)
   refine⟨N-1,k+1,by omega,⟨by omega,fun j z hj hz=>?_⟩,?_⟩
   ·by_cases e:j=k
    ·rw [e,hx] at hz;injection hz with hz;subst hz;simpa [intE,strB] using h2
    ·exact hno j z (by omega) hz
   ·(refine zr2 _ _ rfl rfl ?_ ?_<;>(repeat' (first|exact TmOk.nil|exact RwOk.nil|refine TmOk.cons ?_ ?_|refine RwOk.cons ?_ ?_|rfl|(refine rnV_id' rfl ?_;exact byc)|(refine zv2 ?_;first|rfl|omega|(rw [zv1 (by omega) (by omega)];omega))|(refine zl1 rfl ?_;exact byc)|exact zz3 rfl rfl|(refine zw2 (by rfl) (by rfl) ?_ ?_<;>exact byc)|(refine rw_rn' rfl rfl ?_;simp;done))))
 ·have hk':¬k<l.length:=by simpa using h1
  repeat (first|refine zh ?_|refine zd ?_|refine zf ?_|refine zg ?_|refine zu ?_|refine zb fun C=>?_|refine zj (by kernel_rfl) (by kernel_rfl) fun C=>?_|refine zc ?_|refine zc4 ?_|refine x_bs ?_|refine x_gr ?_|refine x_st ?_|refine x_mv ?_|refine x_sk ?_|refine zn4 ?_|refine x_ix ?_|refine zo4 ?_|refine zp4 ?_|refine ze4 ?_|refine zj3 ?_|refine x_ld ?_)
  refine ret0 (x:=.c (.v (.int .i64 (-1)))) rfl zf3 ⟨?_,rfl⟩
  rw [zh7 fun j y hj hy=>hno j y (by omega) hy]
theorem hasInt_c {l:List E}(hl:∀e∈l,e.Ty Tryz.prog 3)(hk:∀e∈l,e.enc.length=1)(hlen:l.length≤1073741824)(v:Int):Ctr Tryz.prog 222 [.c (.ro l.length 1 (acL l)),.c (.v (.int .i64 v))] [] (.c (.v (.bool (l.any (fun e=>v==intE e))))) []:=by
 refine zo2 Tryz.func222 rfl rfl ?_
 have hcc:=indInt_c hl hk hlen v
 repeat (first|refine zh ?_|refine zd ?_|refine zf ?_|refine zg ?_|refine zu ?_|refine zb fun C=>?_|refine zj (by kernel_rfl) (by kernel_rfl) fun C=>?_|refine zc ?_|refine zc4 ?_|refine x_bs ?_|refine x_gr ?_|refine x_st ?_|refine x_mv ?_|refine x_sk ?_|refine zn4 ?_|refine x_ix ?_|refine zo4 ?_|refine zp4 ?_|refine ze4 ?_|refine zj3 ?_|refine x_ld ?_)
 refine zm7 hcc ?_
 repeat (first|refine zh ?_|refine zd ?_|refine zf ?_|refine zg ?_|refine zu ?_|refine zb fun C=>?_|refine zj (by kernel_rfl) (by kernel_rfl) fun C=>?_|refine zc ?_|refine zc4 ?_|refine x_bs ?_|refine x_gr ?_|refine x_st ?_|refine x_mv ?_|refine x_sk ?_|refine zn4 ?_|refine x_ix ?_|refine zo4 ?_|refine zp4 ?_|refine ze4 ?_|refine zj3 ?_|refine x_ld ?_)
 refine ret0 (x:=.c (.v (.bool (decide (idxF (fun e=>v==intE e) l ≥ 0))))) rfl zf3 ⟨?_,rfl⟩
 rw [zd9]
theorem zj12 {e:E}(he:e.Ty Tryz.prog 208)(hsz:e.sz≤4194304):Ctr Tryz.prog 189 [.ag (acE e)] [] (.c (.v (.bool (rexOkI e)))) []:=by
 have hc:=zi21 6 e 1 he hsz rfl
 obtain⟨x0,x1,x2A,x2c,l,rfl,gx0,gx1,gx2,-⟩:=zy1 he
 refine zo2 Tryz.func189 rfl rfl ?_
 repeat' (first|(apply f_wo;first|(apply f_as;first|refine zi1 (v:=.c _) ?_|refine za ?_)|(apply f_ld;first|refine zw ?_|refine zo1 ?_|refine n_ld ?_)|(apply f_ca;first|refine zz2 hc ?_|refine zx2 hc ?_)|(apply zl6;first|refine zw3 ?_|refine za ?_)|refine n_bo ?_|refine za ?_)|(apply f_w;first|refine zv ?_|refine zc ?_)|refine zb fun C=>?_|refine zh ?_|refine zd ?_|refine zf ?_|refine zg ?_|(refine zn (by rfl) ?_ ?_<;>intro hC<;>(try cases hC)))
 (first|refine zu ?_|skip);refine ret0 rfl zf3 ⟨?_,rfl⟩;refine congrArg (fun s=>AV.c (AC.v (Value.bool s))) ?_
 unfold rexOkI
 (rw [Bool.eq_iff_iff];(try simp only [Bool.and_eq_true,Bool.or_eq_true,Bool.not_eq_true',decide_eq_true_iff,decide_eq_false_iff_not,beq_iff_eq,Bool.and_eq_false_iff,Bool.or_eq_false_iff,bne_iff_ne,ne_eq,Bool.true_eq_false,Bool.false_eq_true,true_iff,false_iff,iff_true,iff_false] at *);first|omega|(simp at *;omega))
def withK (ks:List Int)(k:Int)(t:ByteArray):ByteArray:=if ks.any (fun x=>k==x) then ⟨#[40]⟩++t++⟨#[41]⟩ else t
theorem join_snoc (a:List (List UInt8))(x sep:List UInt8):Lib.join (a++[x]) sep=(if a=[] then [] else Lib.join a sep++sep)++x:=by
 cases a with
 | nil=>simp [Lib.join_one]
 | cons y r =>
  rw [List.cons_append,Lib.join_cons,Lib.join_cons,if_neg (by simp)]
  simp [Lib.joinTail,List.append_assoc]
theorem zu13 (a b:List UInt8):(ByteArray.mk (a++b).toArray)=⟨a.toArray⟩++⟨b.toArray⟩:=by rw [ByteArray.mk_append_mk]
theorem mk_eta (s:ByteArray):(ByteArray.mk s.data.toList.toArray)=s:=by cases s;rfl
theorem zj21 {a:List E}(x:E)(sep:ByteArray):joinB (a++[x]) sep=(if a=[] then ByteArray.empty else joinB a sep++sep)++strB x:=by
 unfold joinB
 rw [List.map_append,List.map_cons,List.map_nil,join_snoc,zu13,mk_eta]
 congr 1
 by_cases h:a=[]
 ·subst h;rfl
 ·rw [if_neg h,if_neg (by simpa using h),zu13,mk_eta]
end Go.Proofs.YtghljnfbbaklnaaGreat
