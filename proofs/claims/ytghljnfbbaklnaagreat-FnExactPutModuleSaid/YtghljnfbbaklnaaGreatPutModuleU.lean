/- The program's RexOk: by the abstract machine. -/
import Derived.Test.YtghljnfbbaklnaaGreatPutModuleT
namespace Go.Proofs.YtghljnfbbaklnaaGreat
open Go.RowKit
set_option maxRecDepth 100000
theorem zt16 {s:ByteArray}(h:∀j,j<s.size→setAtB s j=true):setOkB s=(decide (1≤s.size)&&decide (s.size≤10)):=by
 unfold setOkB
 rw [show (List.range s.size).all (setAtB s)=true from List.all_eq_true.2 fun j hj=>h j (List.mem_range.1 hj),Bool.true_and]
theorem zh11 {s:ByteArray}{j:Nat}(h:j<s.size)(h2:setAtB s j=false):setOkB s=false:=by
 unfold setOkB
 rw [show (List.range s.size).all (setAtB s)=false from List.all_eq_false.2 ⟨j,List.mem_range.2 h,by simp [h2]⟩,Bool.false_and]
theorem setOk_c {s:ByteArray}(hs:s.size≤1073741824):Ctr Tryz.prog 217 [.c (.v (.string s))] [] (.c (.v (.bool (setOkB s)))) []:=by
 refine zo2 Tryz.func217 rfl rfl ?_
 repeat' (first|refine zh ?_|refine zd ?_|refine zf ?_|refine zg ?_|refine zb fun C=>?_|refine zj (by kernel_rfl) (by kernel_rfl) fun C=>?_|refine zc ?_|(refine x_gm ?_ ?_<;>intro hG<;>(try cases hG))|refine zc16 ?_|refine zd16 ?_|refine ze16 ?_|refine zf16 ?_|refine zy11 ?_|refine zc4 ?_|refine zo10 ?_|refine zz15 ?_|refine za16 ?_|refine x_bs ?_|refine x_gr ?_|refine x_st ?_|refine x_mv ?_|refine x_sk ?_|refine zn4 ?_|refine x_ix ?_|refine zo4 ?_|refine zp4 ?_|refine ze4 ?_|refine ze4 (hnu:=ze _) ?_|refine zj3 ?_|refine zj3 (hnu:=ze _) ?_|refine x_ld ?_|refine zy15 ?_|refine za18 ?_)
 refine ze3 (fun k:Nat=>⟨tmsF [(0,.c (.v (.string s))),(3,.c (.v (.int .i64 k)))],hpsF [],0,[],32⟩) (fun N k=>k+N=s.size∧∀j,j<k→setAtB s j=true) s.size 0 ⟨by omega,fun j hj=>by omega⟩ ?_ ?_
 ·(refine zr2 _ _ rfl rfl ?_ ?_<;>(repeat' (first|exact TmOk.nil|exact RwOk.nil|refine TmOk.cons ?_ ?_|refine RwOk.cons ?_ ?_|rfl|(refine rnV_id' rfl ?_;exact byc)|(refine zv2 ?_;first|rfl|omega|(rw [zv1 (by omega) (by omega)];omega))|(refine zl1 rfl ?_;exact byc)|exact zz3 rfl rfl|(refine zw2 (by rfl) (by rfl) ?_ ?_<;>exact byc)|(refine rw_rn' rfl rfl ?_;simp;done))))
 rintro N k ⟨hN,hall⟩
 repeat' (first|refine zh ?_|refine zd ?_|refine zf ?_|refine zg ?_|refine zb fun C=>?_|refine zj (by kernel_rfl) (by kernel_rfl) fun C=>?_|refine zc ?_|(refine x_gm ?_ ?_<;>intro hG<;>(try cases hG))|refine zc16 ?_|refine zd16 ?_|refine ze16 ?_|refine zf16 ?_|refine zy11 ?_|refine zc4 ?_|refine zo10 ?_|refine zz15 ?_|refine za16 ?_|refine x_bs ?_|refine x_gr ?_|refine x_st ?_|refine x_mv ?_|refine x_sk ?_|refine zn4 ?_|refine x_ix ?_|refine zo4 ?_|refine zp4 ?_|refine ze4 ?_|refine ze4 (hnu:=ze _) ?_|refine zj3 ?_|refine zj3 (hnu:=ze _) ?_|refine x_ld ?_|refine zy15 ?_|refine za18 ?_)
 refine zd4 (by rfl) (fun h1=>?_) fun h1=>?_
 ·have hk:k<s.size:=by simpa using h1
  have hl:=zi12 (zw8 s k)
  have fin:∀b,setAtB s k=b→True:=fun _ _=>trivial
  cases k with
  | zero =>
   repeat' (first|refine zh ?_|refine zd ?_|refine zf ?_|refine zg ?_|refine zb fun C=>?_|refine zj (by kernel_rfl) (by kernel_rfl) fun C=>?_|refine zc ?_|(refine x_gm ?_ ?_<;>intro hG<;>(try cases hG))|refine zc16 ?_|refine zd16 ?_|refine ze16 ?_|refine zf16 ?_|refine zy11 ?_|refine zc4 ?_|refine zo10 ?_|refine zz15 ?_|refine za16 ?_|refine x_bs ?_|refine x_gr ?_|refine x_st ?_|refine x_mv ?_|refine x_sk ?_|refine zn4 ?_|refine x_ix ?_|refine zo4 ?_|refine zp4 ?_|refine ze4 ?_|refine ze4 (hnu:=ze _) ?_|refine zj3 ?_|refine zj3 (hnu:=ze _) ?_|refine x_ld ?_|refine zy15 ?_|refine zm7 hl ?_|(refine zd4 (by rfl) ?_ ?_<;>intro hC<;>(try cases hC)))
   all_goals first
    | (exfalso;revert hG;simp;done)
    | (refine zu ?_
       refine ret0 (x:=.c (.v (.bool false))) rfl zf3 ⟨?_,rfl⟩
       rw [zh11 hk (by unfold setAtB;simp_all)])
    | (refine⟨N-1,1,by omega,⟨by omega,fun j hj=>?_⟩,?_⟩
       ·obtain rfl:j=0:=by omega
        unfold setAtB;simp_all
       ·(refine zr2 _ _ rfl rfl ?_ ?_<;>(repeat' (first|exact TmOk.nil|exact RwOk.nil|refine TmOk.cons ?_ ?_|refine RwOk.cons ?_ ?_|rfl|(refine rnV_id' rfl ?_;exact byc)|(refine zv2 ?_;first|rfl|omega|(rw [zv1 (by omega) (by omega)];omega))|(refine zl1 rfl ?_;exact byc)|exact zz3 rfl rfl|(refine zw2 (by rfl) (by rfl) ?_ ?_<;>exact byc)|(refine rw_rn' rfl rfl ?_;simp;done)))))
  | succ m =>
   have hm:((m+1:Nat):Int)-1=(m:Int):=by omega
   repeat' (first|refine zh ?_|refine zd ?_|refine zf ?_|refine zg ?_|refine zb fun C=>?_|refine zj (by kernel_rfl) (by kernel_rfl) fun C=>?_|refine zc ?_|(refine x_gm ?_ ?_<;>intro hG<;>(try cases hG))|refine zc16 ?_|refine zd16 ?_|refine ze16 ?_|refine zf16 ?_|refine zy11 ?_|refine zc4 ?_|refine zo10 ?_|refine zz15 ?_|refine za16 ?_|refine x_bs ?_|refine x_gr ?_|refine x_st ?_|refine x_mv ?_|refine x_sk ?_|refine zn4 ?_|refine x_ix ?_|refine zo4 ?_|refine zp4 ?_|refine ze4 ?_|refine ze4 (hnu:=ze _) ?_|refine zj3 ?_|refine zj3 (hnu:=ze _) ?_|refine x_ld ?_|refine zy15 ?_|refine zm7 hl ?_|(refine zd4 (by rfl) ?_ ?_<;>intro hC<;>(try cases hC)))
   all_goals first
    | (refine zu ?_
       refine ret0 (x:=.c (.v (.bool false))) rfl zf3 ⟨?_,rfl⟩
       rw [zh11 hk (by unfold setAtB;simp_all;try omega)])
    | (refine⟨N-1,m+2,by omega,⟨by omega,fun j hj=>?_⟩,?_⟩
       ·rcases Nat.lt_or_ge j (m+1) with h|h
        ·exact hall j h
        ·obtain rfl:j=m+1:=by omega
         unfold setAtB;simp_all;try omega
       ·(refine zr2 _ _ rfl rfl ?_ ?_<;>(repeat' (first|exact TmOk.nil|exact RwOk.nil|refine TmOk.cons ?_ ?_|refine RwOk.cons ?_ ?_|rfl|(refine rnV_id' rfl ?_;exact byc)|(refine zv2 ?_;first|rfl|omega|(rw [zv1 (by omega) (by omega)];omega))|(refine zl1 rfl ?_;exact byc)|exact zz3 rfl rfl|(refine zw2 (by rfl) (by rfl) ?_ ?_<;>exact byc)|(refine rw_rn' rfl rfl ?_;simp;done)))))
    | skip
 ·repeat' (first|refine zh ?_|refine zd ?_|refine zf ?_|refine zg ?_|refine zb fun C=>?_|refine zj (by kernel_rfl) (by kernel_rfl) fun C=>?_|refine zc ?_|(refine x_gm ?_ ?_<;>intro hG<;>(try cases hG))|refine zc16 ?_|refine zd16 ?_|refine ze16 ?_|refine zf16 ?_|refine zy11 ?_|refine zc4 ?_|refine zo10 ?_|refine zz15 ?_|refine za16 ?_|refine x_bs ?_|refine x_gr ?_|refine x_st ?_|refine x_mv ?_|refine x_sk ?_|refine zn4 ?_|refine x_ix ?_|refine zo4 ?_|refine zp4 ?_|refine ze4 ?_|refine ze4 (hnu:=ze _) ?_|refine zj3 ?_|refine zj3 (hnu:=ze _) ?_|refine x_ld ?_|refine zy15 ?_|refine zm7 (zd6 _ _ _) ?_|(refine zd4 (by rfl) ?_ ?_<;>intro hC<;>(try cases hC)))
  refine zu ?_
  refine ret0 rfl zf3 ⟨?_,rfl⟩
  rw [zt16 fun j hj=>hall j (by simp at h1;omega)]
  refine congrArg (fun s=>AV.c (AC.v (Value.bool s))) ?_
  unfold inR
  (rw [Bool.eq_iff_iff];(try simp only [Bool.and_eq_true,Bool.or_eq_true,Bool.not_eq_true',decide_eq_true_iff,decide_eq_false_iff_not,beq_iff_eq,Bool.and_eq_false_iff,Bool.or_eq_false_iff,bne_iff_ne,ne_eq,Bool.true_eq_false,Bool.false_eq_true,true_iff,false_iff,iff_true,iff_false] at *);first|omega|(simp at *;omega))
theorem isLoop_c {x:E}(hx:x.Ty Tryz.prog 208):Ctr Tryz.prog 220 [.ag (acE x)] [] (.c (.v (.bool (loopK x.rk)))) []:=by
 obtain⟨y0,y1,y2A,y2c,y2l,rfl,gy0,gy1,gy2,-⟩:=zy1 hx
 refine zo2 Tryz.func220 rfl rfl ?_
 repeat' (first|(apply f_wo;first|(apply f_gs;refine n_sk ?_)|(apply f_mv;first|(refine zb2 ?_ ?_<;>intro hG<;>(try cases hG))|refine zj1 (v:=.c _) ?_|refine za ?_)|(apply f_as;first|refine zi1 (v:=.c _) ?_|refine za ?_)|(apply f_fa;first|refine n_fa ?_|refine zm1 ?_)|(apply f_ld;first|refine zq1 ?_|refine zx ?_|refine n_ld ?_)|(apply ze2;first|refine zy ?_|refine za ?_)|(apply f_pk;first|refine za2 (v:=.c _) ?_|refine za ?_)|refine n_bo ?_|refine za ?_)|(apply f_w;first|refine zv ?_|refine zc ?_)|refine zb fun C=>?_|refine zh ?_|refine zd ?_|refine zf ?_|refine zg ?_|(refine zn (by rfl) ?_ ?_<;>intro hC<;>(try cases hC)))
 all_goals
  (first|refine zu ?_|skip);refine ret0 rfl zf3 ⟨?_,rfl⟩;refine congrArg (fun s=>AV.c (AC.v (Value.bool s))) ?_
  simp only [E.rk]
  unfold loopK
  (rw [Bool.eq_iff_iff];(try simp only [Bool.and_eq_true,Bool.or_eq_true,Bool.not_eq_true',decide_eq_true_iff,decide_eq_false_iff_not,beq_iff_eq,Bool.and_eq_false_iff,Bool.or_eq_false_iff,bne_iff_ne,ne_eq,Bool.true_eq_false,Bool.false_eq_true,true_iff,false_iff,iff_true,iff_false] at *);first|omega|(simp at *;omega))
theorem cloRex_c {x:E}(hx:x.Ty Tryz.prog 208)(k:Int){c1 c2:AC}(h1:clo c1=true)(h2:clo c2=true):Ctr Tryz.prog 219 [.ag (acE x),.c (.pt 0 0)] [[.v (.int .i64 k),c1,c2]] (.c (.v (.bool (x.rk==k)))) [[.v (.int .i64 k),c1,c2]]:=by
 obtain⟨y0,y1,y2A,y2c,y2l,rfl,gy0,gy1,gy2,-⟩:=zy1 hx
 refine zo2 Tryz.func219 rfl rfl ?_
 repeat' (first|(apply f_wo;first|(apply f_as;first|refine zi1 (v:=.c _) ?_|refine za ?_)|(apply f_fa;first|refine n_fa ?_|refine zm1 ?_)|(apply f_ld;first|refine zq1 ?_|refine zx ?_|refine n_ld ?_)|(apply ze2;first|refine zy ?_|refine za ?_)|refine n_bo ?_|refine za ?_)|(apply f_w;first|refine zv ?_|refine zc ?_)|refine zb fun C=>?_|refine zh ?_|refine zd ?_|refine zf ?_|refine zg ?_|(refine zn (by rfl) ?_ ?_<;>intro hC<;>(try cases hC)))
 refine zu ?_
 exact ret1 (x:=.c (.v (.bool (y0==k)))) (rw:=⟨0,0,0,true,[.v (.int .i64 k),c1,c2]⟩) rfl rfl rfl (by simp [cloL,clo,h1,h2]) rfl ⟨rfl,rfl⟩
theorem zy14 {s:ByteArray}:(s.toList==(ByteArray.mk #[]).toList)=(s.size==0):=by
 rw [Bool.eq_iff_iff]
 simp only [beq_iff_eq]
 exact⟨fun h=>by have:=toList_inj h;rw [this];rfl,fun h=>by rw [zj9 h];rfl⟩
theorem ib0 {n:Nat}:((n:Int)==0)=(n==0):=by rw [Bool.eq_iff_iff];simp only [beq_iff_eq];omega
theorem ib1 {n:Nat}:((n:Int)==1)=(n==1):=by rw [Bool.eq_iff_iff];simp only [beq_iff_eq];omega
theorem inR28 {n:Nat}:inR (n:Int) 2 8=(decide (2≤n)&&decide (n≤8)):=by
 unfold inR
 rw [Bool.eq_iff_iff];simp only [Bool.and_eq_true,decide_eq_true_iff];omega
theorem zz14 {x0:Int}{x1:ByteArray}{A:Option Addr}{c:Nat}{l:List E}:headI (E.agg [.int .i64 x0,.str x1,.lst 3 208 A c l])=(headR x0 x1 l&&!((x0==4||x0==5)&&l.any fun x=>x.rk==x0)):=rfl
end Go.Proofs.YtghljnfbbaklnaaGreat
