/- Lists of Rex: the first that .., whether one is among them: by the abstract machine. -/
import Derived.Test.YtnjfnhoipnbpeaaGreatDoorTxtPM
namespace Go.Proofs.YtnjfnhoipnbpeaaGreatDoor
open Go.RowKit
set_option maxRecDepth 100000
theorem idx1Rex_c {l:List E}(hl:∀e∈l,e.Ty Tryz.prog 140)(hk:∀e∈l,e.enc.length=3)(hlen:l.length≤1073741824){b:List AC}(hb:cloL b=true)(p:E→Bool)(f:FuncId)(hc:∀x∈l,Ctr Tryz.prog f (.ag (acE x) :: [.c (.pt 0 0)]) [b] (.c (.v (.bool (p x)))) [b]):Ctr Tryz.prog 163 [.c (.ro l.length 3 (acL l)),.c (.fn f [.pt 0 0])] [b] (.c (.v (.int .i64 (idxF p l)))) [b]:=by
 refine ze1 Tryz.func163 rfl rfl ?_
 repeat (first|refine zd ?_|refine ze ?_|refine zg ?_|refine zu ?_|refine zh ?_|refine za fun C=>?_|refine zn (by kernel_rfl) (by kernel_rfl) fun C=>?_|refine zb ?_|refine zm2 ?_|refine x_bs ?_|refine x_gr ?_|refine x_st ?_|refine x_mv ?_|refine x_sk ?_|refine zd3 ?_|refine x_ix ?_|refine za3 ?_|refine ze3 ?_|refine zb3 ?_|refine zk2 ?_|refine x_ld ?_)
 refine zv1 (fun k:Nat=>⟨tmsF [(0,.c (.ro l.length 3 (acL l))),(1,.c (.fn f [.pt 0 0])),(7,.c (.v (.int .i64 l.length))),(8,.c (.v (.int .i64 k)))],hpsF [(0,0,⟨0,0,0,true,b⟩)],1,[0],19⟩)
  (fun N k=>k+N=l.length∧∀j y,j<k→l[j]? = some y→p y=false) l.length 0 ⟨by omega,by omega⟩ ?_ ?_
 ·refine zl1 _ _ rfl rfl ?_ ?_;(repeat' (first|exact TmOk.nil|exact RwOk.nil|refine TmOk.cons ?_ ?_|refine RwOk.cons ?_ ?_|rfl|(refine rnV_id' rfl ?_;exact byc)|(refine zp1 ?_;first|rfl|omega|(rw [zw (by omega) (by omega)];omega))|(refine zb1 rfl ?_;exact byc)|exact zc2 rfl rfl|(refine zq1 (by rfl) (by rfl) ?_ ?_<;>exact byc)|(refine rw_rn' rfl rfl ?_;simp;done)));refine zb1 rfl hb
 rintro N k ⟨hN,hno⟩
 repeat (first|refine zd ?_|refine ze ?_|refine zg ?_|refine zu ?_|refine zh ?_|refine za fun C=>?_|refine zn (by kernel_rfl) (by kernel_rfl) fun C=>?_|refine zb ?_|refine zm2 ?_|refine x_bs ?_|refine x_gr ?_|refine x_st ?_|refine x_mv ?_|refine x_sk ?_|refine zd3 ?_|refine x_ix ?_|refine za3 ?_|refine ze3 ?_|refine zb3 ?_|refine zk2 ?_|refine x_ld ?_)
 refine zy2 (by rfl) (fun h1=>?_) fun h1=>?_
 ·have hk':k<l.length:=by simpa using h1
  obtain⟨x,hx⟩:∃x,l[k]? = some x:=⟨_,List.getElem?_eq_getElem hk'⟩
  have hxt:=hl x (List.mem_of_getElem? hx)
  have hcc:=hc x (List.mem_of_getElem? hx)
  obtain⟨y0,y1,y2A,y2c,y2l,rfl,gy0,gy1,gy2,-⟩:=zu1 hxt
  repeat (first|refine zd ?_|refine ze ?_|refine zg ?_|refine zu ?_|refine zh ?_|refine za fun C=>?_|refine zn (by kernel_rfl) (by kernel_rfl) fun C=>?_|refine zb ?_|refine zm2 ?_|refine x_bs ?_|refine x_gr ?_|refine x_st ?_|refine x_mv ?_|refine x_sk ?_|refine zd3 ?_|refine x_ix ?_|refine za3 ?_|refine ze3 ?_|refine zb3 ?_|refine zk2 ?_|refine x_ld ?_)
  refine x_cad 0 hcc ?_ (hl:=zz4 (by rfl) hb)
  repeat (first|refine zd ?_|refine ze ?_|refine zg ?_|refine zu ?_|refine zh ?_|refine za fun C=>?_|refine zn (by kernel_rfl) (by kernel_rfl) fun C=>?_|refine zb ?_|refine zm2 ?_|refine x_bs ?_|refine x_gr ?_|refine x_st ?_|refine x_mv ?_|refine x_sk ?_|refine zd3 ?_|refine x_ix ?_|refine za3 ?_|refine ze3 ?_|refine zb3 ?_|refine zk2 ?_|refine x_ld ?_)
  refine zy2 (by rfl) (fun h2=>?_) fun h2=>?_
  ·repeat (first|refine zd ?_|refine ze ?_|refine zg ?_|refine zu ?_|refine zh ?_|refine za fun C=>?_|refine zn (by kernel_rfl) (by kernel_rfl) fun C=>?_|refine zb ?_|refine zm2 ?_|refine x_bs ?_|refine x_gr ?_|refine x_st ?_|refine x_mv ?_|refine x_sk ?_|refine zd3 ?_|refine x_ix ?_|refine za3 ?_|refine ze3 ?_|refine zb3 ?_|refine zk2 ?_|refine x_ld ?_)
   refine ret1 (x:=.c (.v (.int .i64 k))) (rw:=⟨0,0,0,true,b⟩) rfl rfl rfl hb rfl ⟨?_,rfl⟩
   rw [zb7 hno hx h2]
  ·repeat (first|refine zd ?_|refine ze ?_|refine zg ?_|refine zu ?_|refine zh ?_|refine za fun C=>?_|refine zn (by kernel_rfl) (by kernel_rfl) fun C=>?_|refine zb ?_|refine zm2 ?_|refine x_bs ?_|refine x_gr ?_|refine x_st ?_|refine x_mv ?_|refine x_sk ?_|refine zd3 ?_|refine x_ix ?_|refine za3 ?_|refine ze3 ?_|refine zb3 ?_|refine zk2 ?_|refine x_ld ?_)
   refine⟨N-1,k+1,by omega,⟨by omega,fun j z hj hz=>?_⟩,?_⟩
   ·by_cases e:j=k
    ·rw [e,hx] at hz;injection hz with hz;subst hz;exact h2
    ·exact hno j z (by omega) hz
   ·refine zl1 _ _ rfl rfl ?_ ?_;(repeat' (first|exact TmOk.nil|exact RwOk.nil|refine TmOk.cons ?_ ?_|refine RwOk.cons ?_ ?_|rfl|(refine rnV_id' rfl ?_;exact byc)|(refine zp1 ?_;first|rfl|omega|(rw [zw (by omega) (by omega)];omega))|(refine zb1 rfl ?_;exact byc)|exact zc2 rfl rfl|(refine zq1 (by rfl) (by rfl) ?_ ?_<;>exact byc)|(refine rw_rn' rfl rfl ?_;simp;done)));refine zb1 rfl hb
 ·have hk':¬k<l.length:=by simpa using h1
  repeat (first|refine zd ?_|refine ze ?_|refine zg ?_|refine zu ?_|refine zh ?_|refine za fun C=>?_|refine zn (by kernel_rfl) (by kernel_rfl) fun C=>?_|refine zb ?_|refine zm2 ?_|refine x_bs ?_|refine x_gr ?_|refine x_st ?_|refine x_mv ?_|refine x_sk ?_|refine zd3 ?_|refine x_ix ?_|refine za3 ?_|refine ze3 ?_|refine zb3 ?_|refine zk2 ?_|refine x_ld ?_)
  refine ret1 (x:=.c (.v (.int .i64 (-1)))) (rw:=⟨0,0,0,true,b⟩) rfl rfl rfl hb rfl ⟨?_,rfl⟩
  rw [zy4 fun j y hj hy=>hno j y (by omega) hy]
theorem con1Rex_c {l:List E}(hl:∀e∈l,e.Ty Tryz.prog 140)(hk:∀e∈l,e.enc.length=3)(hlen:l.length≤1073741824){b:List AC}(hb:cloL b=true)(p:E→Bool)(f:FuncId)(hc:∀x∈l,Ctr Tryz.prog f (.ag (acE x) :: [.c (.pt 0 0)]) [b] (.c (.v (.bool (p x)))) [b]):Ctr Tryz.prog 153 [.c (.ro l.length 3 (acL l)),.c (.fn f [.pt 0 0])] [b] (.c (.v (.bool (l.any p)))) [b]:=by
 refine ze1 Tryz.func153 rfl rfl ?_
 have hcc:=idx1Rex_c hl hk hlen hb p f hc
 repeat (first|refine zd ?_|refine ze ?_|refine zg ?_|refine zu ?_|refine zh ?_|refine za fun C=>?_|refine zn (by kernel_rfl) (by kernel_rfl) fun C=>?_|refine zb ?_|refine zm2 ?_|refine x_bs ?_|refine x_gr ?_|refine x_st ?_|refine x_mv ?_|refine x_sk ?_|refine zd3 ?_|refine x_ix ?_|refine za3 ?_|refine ze3 ?_|refine zb3 ?_|refine zk2 ?_|refine x_ld ?_)
 refine x_cad 0 hcc ?_ (hl:=zz4 (by rfl) hb)
 repeat (first|refine zd ?_|refine ze ?_|refine zg ?_|refine zu ?_|refine zh ?_|refine za fun C=>?_|refine zn (by kernel_rfl) (by kernel_rfl) fun C=>?_|refine zb ?_|refine zm2 ?_|refine x_bs ?_|refine x_gr ?_|refine x_st ?_|refine x_mv ?_|refine x_sk ?_|refine zd3 ?_|refine x_ix ?_|refine za3 ?_|refine ze3 ?_|refine zb3 ?_|refine zk2 ?_|refine x_ld ?_)
 refine ret1 (x:=.c (.v (.bool (decide (idxF p l ≥ 0))))) (rw:=⟨0,0,0,true,b⟩) rfl rfl rfl hb rfl ⟨?_,rfl⟩
 rw [zp7]
theorem idxLit:∀c:Fin 256,decide (0≤Lib.indexByte [32,95,45,44,58] (UInt8.ofNat c.1))=(c.1==32||c.1==95||c.1==45||c.1==44||c.1==58):=by decide
theorem za11 {c:Nat}(hc:c<256):Ctr Tryz.prog 151 [.c (.v (.int .u8 (c:Int)))] [] (.c (.v (.bool (litB c)))) []:=by
 have h1:=zz10 ⟨#[32,95,45,44,58]⟩ hc
 have h2:=zh15 c
 have h3:decide (0≤Lib.indexByte (ByteArray.mk #[32,95,45,44,58]).data.toList (UInt8.ofNat c))=(c==32||c==95||c==45||c==44||c==58):=idxLit ⟨c,hc⟩
 refine ze1 Tryz.func151 rfl rfl ?_
 repeat' (first|refine zd ?_|refine za fun C=>?_|refine zb ?_|(refine x_gm ?_ ?_<;>intro hG<;>(try cases hG))|refine zm2 ?_|refine x_sk ?_|refine zn7 h1 ?_|refine zn7 h2 ?_)
 all_goals
  (first|refine zh ?_|skip);refine ret0 rfl zg1 ⟨?_,rfl⟩;refine congrArg (fun s=>AV.c (AC.v (Value.bool s))) ?_
  clear h1 h2
  have h3':=congrArg (·= true) h3
  simp only [decide_eq_true_iff,eq_iff_iff] at h3'
  clear h3
  unfold litB
  simp only [digB,ge_iff_le,Bool.or_eq_true,Bool.and_eq_true,decide_eq_true_iff,beq_iff_eq,Bool.and_eq_false_iff,decide_eq_false_iff_not] at *
  (rw [Bool.eq_iff_iff];(try simp only [Bool.and_eq_true,Bool.or_eq_true,Bool.not_eq_true',decide_eq_true_iff,decide_eq_false_iff_not,beq_iff_eq,Bool.and_eq_false_iff,Bool.or_eq_false_iff,bne_iff_ne,ne_eq,Bool.true_eq_false,Bool.false_eq_true,true_iff,false_iff,iff_true,iff_false] at *);first|omega|(simp at *;omega))
theorem zr15 {s:ByteArray}(h:∀j,j<s.size→setAtB s j=true):setOkB s=(decide (1≤s.size)&&decide (s.size≤10)):=by
 unfold setOkB
 rw [show (List.range s.size).all (setAtB s)=true from List.all_eq_true.2 fun j hj=>h j (List.mem_range.1 hj),Bool.true_and]
theorem zx9 {s:ByteArray}{j:Nat}(h:j<s.size)(h2:setAtB s j=false):setOkB s=false:=by
 unfold setOkB
 rw [show (List.range s.size).all (setAtB s)=false from List.all_eq_false.2 ⟨j,List.mem_range.2 h,by simp [h2]⟩,Bool.false_and]
theorem setOk_c {s:ByteArray}(hs:s.size≤1073741824):Ctr Tryz.prog 152 [.c (.v (.string s))] [] (.c (.v (.bool (setOkB s)))) []:=by
 refine ze1 Tryz.func152 rfl rfl ?_
 repeat' (first|refine zd ?_|refine ze ?_|refine za fun C=>?_|refine zb ?_|refine zm2 ?_)
 refine zv1 (fun k:Nat=>⟨tmsF [(0,.c (.v (.string s))),(3,.c (.v (.int .i64 k)))],hpsF [],0,[],32⟩) (fun N k=>k+N=s.size∧∀j,j<k→setAtB s j=true) s.size 0 ⟨by omega,fun j hj=>by omega⟩ ?_ ?_
 ·(refine zl1 _ _ rfl rfl ?_ ?_<;>(repeat' (first|exact TmOk.nil|exact RwOk.nil|refine TmOk.cons ?_ ?_|refine RwOk.cons ?_ ?_|rfl|(refine rnV_id' rfl ?_;exact byc)|(refine zp1 ?_;first|rfl|omega|(rw [zw (by omega) (by omega)];omega))|(refine zb1 rfl ?_;exact byc)|exact zc2 rfl rfl|(refine zq1 (by rfl) (by rfl) ?_ ?_<;>exact byc)|(refine rw_rn' rfl rfl ?_;simp;done))))
 rintro N k ⟨hN,hall⟩
 repeat' (first|refine zd ?_|refine za fun C=>?_|refine zb ?_|refine zm2 ?_)
 refine zy2 (by rfl) (fun h1=>?_) fun h1=>?_
 ·have hk:k<s.size:=by simpa using h1
  have hl:=za11 (zq5 s k)
  have fin:∀b,setAtB s k=b→True:=fun _ _=>trivial
  cases k with
  | zero =>
   repeat' (first|refine zd ?_|refine ze ?_|refine zg ?_|refine za fun C=>?_|refine zn (by kernel_rfl) (by kernel_rfl) fun C=>?_|refine zb ?_|(refine x_gm ?_ ?_<;>intro hG<;>(try cases hG))|refine x_six ?_|refine zi17 ?_|refine zm2 ?_|refine x_sk ?_|refine zn7 hl ?_|(refine zy2 (by rfl) ?_ ?_<;>intro hC<;>(try cases hC)))
   all_goals first
    | (exfalso;revert hG;simp;done)
    | (refine zh ?_
       refine ret0 (x:=.c (.v (.bool false))) rfl zg1 ⟨?_,rfl⟩
       rw [zx9 hk (by unfold setAtB;simp_all)])
    | (refine⟨N-1,1,by omega,⟨by omega,fun j hj=>?_⟩,?_⟩
       ·obtain rfl:j=0:=by omega
        unfold setAtB;simp_all
       ·(refine zl1 _ _ rfl rfl ?_ ?_<;>(repeat' (first|exact TmOk.nil|exact RwOk.nil|refine TmOk.cons ?_ ?_|refine RwOk.cons ?_ ?_|rfl|(refine rnV_id' rfl ?_;exact byc)|(refine zp1 ?_;first|rfl|omega|(rw [zw (by omega) (by omega)];omega))|(refine zb1 rfl ?_;exact byc)|exact zc2 rfl rfl|(refine zq1 (by rfl) (by rfl) ?_ ?_<;>exact byc)|(refine rw_rn' rfl rfl ?_;simp;done)))))
  | succ m =>
   have hm:((m+1:Nat):Int)-1=(m:Int):=by omega
   repeat' (first|refine zd ?_|refine ze ?_|refine zg ?_|refine za fun C=>?_|refine zn (by kernel_rfl) (by kernel_rfl) fun C=>?_|refine zb ?_|(refine x_gm ?_ ?_<;>intro hG<;>(try cases hG))|refine x_six ?_|refine zi17 ?_|refine zm2 ?_|refine x_sk ?_|refine zn7 hl ?_|(refine zy2 (by rfl) ?_ ?_<;>intro hC<;>(try cases hC)))
   all_goals first
    | (refine zh ?_
       refine ret0 (x:=.c (.v (.bool false))) rfl zg1 ⟨?_,rfl⟩
       rw [zx9 hk (by unfold setAtB;simp_all;try omega)])
    | (refine⟨N-1,m+2,by omega,⟨by omega,fun j hj=>?_⟩,?_⟩
       ·rcases Nat.lt_or_ge j (m+1) with h|h
        ·exact hall j h
        ·obtain rfl:j=m+1:=by omega
         unfold setAtB;simp_all;try omega
       ·(refine zl1 _ _ rfl rfl ?_ ?_<;>(repeat' (first|exact TmOk.nil|exact RwOk.nil|refine TmOk.cons ?_ ?_|refine RwOk.cons ?_ ?_|rfl|(refine rnV_id' rfl ?_;exact byc)|(refine zp1 ?_;first|rfl|omega|(rw [zw (by omega) (by omega)];omega))|(refine zb1 rfl ?_;exact byc)|exact zc2 rfl rfl|(refine zq1 (by rfl) (by rfl) ?_ ?_<;>exact byc)|(refine rw_rn' rfl rfl ?_;simp;done)))))
    | skip
 ·repeat' (first|refine zd ?_|refine zu ?_|refine za fun C=>?_|refine zb ?_|refine zm2 ?_|refine zn7 (zy5 _ _ _) ?_)
  refine zh ?_
  refine ret0 rfl zg1 ⟨?_,rfl⟩
  rw [zr15 fun j hj=>hall j (by simp at h1;omega)]
  refine congrArg (fun s=>AV.c (AC.v (Value.bool s))) ?_
  unfold inR
  (rw [Bool.eq_iff_iff];(try simp only [Bool.and_eq_true,Bool.or_eq_true,Bool.not_eq_true',decide_eq_true_iff,decide_eq_false_iff_not,beq_iff_eq,Bool.and_eq_false_iff,Bool.or_eq_false_iff,bne_iff_ne,ne_eq,Bool.true_eq_false,Bool.false_eq_true,true_iff,false_iff,iff_true,iff_false] at *);first|omega|(simp at *;omega))
theorem isLoop_c {x:E}(hx:x.Ty Tryz.prog 140):Ctr Tryz.prog 155 [.ag (acE x)] [] (.c (.v (.bool (loopK x.rk)))) []:=by
 obtain⟨y0,y1,y2A,y2c,y2l,rfl,gy0,gy1,gy2,-⟩:=zu1 hx
 refine ze1 Tryz.func155 rfl rfl ?_
 repeat' (first|(apply f_wo;first|(apply f_gs;refine n_sk ?_)|(apply f_mv;(refine zx1 ?_ ?_<;>intro hG<;>(try cases hG)))|(apply f_as;refine zq (v:=.c _) ?_)|(apply f_fa;refine n_fa ?_)|(apply f_ld;refine zn1 ?_)|(apply zr1;refine zm ?_)|(apply f_pk;refine zw1 (v:=.c _) ?_)|refine n_bo ?_)|(apply f_w;first|refine zj ?_|refine zb ?_)|refine za fun C=>?_|refine zd ?_)
 all_goals
  (first|refine zh ?_|skip);refine ret0 rfl zg1 ⟨?_,rfl⟩;refine congrArg (fun s=>AV.c (AC.v (Value.bool s))) ?_
  simp only [E.rk]
  unfold loopK
  (rw [Bool.eq_iff_iff];(try simp only [Bool.and_eq_true,Bool.or_eq_true,Bool.not_eq_true',decide_eq_true_iff,decide_eq_false_iff_not,beq_iff_eq,Bool.and_eq_false_iff,Bool.or_eq_false_iff,bne_iff_ne,ne_eq,Bool.true_eq_false,Bool.false_eq_true,true_iff,false_iff,iff_true,iff_false] at *);first|omega|(simp at *;omega))
theorem cloRex_c {x:E}(hx:x.Ty Tryz.prog 140)(k:Int){c1 c2:AC}(h1:clo c1=true)(h2:clo c2=true):Ctr Tryz.prog 154 [.ag (acE x),.c (.pt 0 0)] [[.v (.int .i64 k),c1,c2]] (.c (.v (.bool (x.rk==k)))) [[.v (.int .i64 k),c1,c2]]:=by
 obtain⟨y0,y1,y2A,y2c,y2l,rfl,gy0,gy1,gy2,-⟩:=zu1 hx
 refine ze1 Tryz.func154 rfl rfl ?_
 repeat' (first|(apply f_wo;first|(apply f_as;refine zq (v:=.c _) ?_)|(apply f_fa;refine n_fa ?_)|(apply f_ld;refine zn1 ?_)|(apply zr1;refine zm ?_)|refine n_bo ?_)|(apply f_w;first|refine zj ?_|refine zb ?_)|refine za fun C=>?_|refine zd ?_)
 refine zh ?_
 exact ret1 (x:=.c (.v (.bool (y0==k)))) (rw:=⟨0,0,0,true,[.v (.int .i64 k),c1,c2]⟩) rfl rfl rfl (by simp [cloL,clo,h1,h2]) rfl ⟨rfl,rfl⟩
theorem za14 {s:ByteArray}:(s.toList==(ByteArray.mk #[]).toList)=(s.size==0):=by
 rw [Bool.eq_iff_iff]
 simp only [beq_iff_eq]
 exact⟨fun h=>by have:=toList_inj h;rw [this];rfl,fun h=>by rw [zu7 h];rfl⟩
theorem ib0 {n:Nat}:((n:Int)==0)=(n==0):=by rw [Bool.eq_iff_iff];simp only [beq_iff_eq];omega
theorem ib1 {n:Nat}:((n:Int)==1)=(n==1):=by rw [Bool.eq_iff_iff];simp only [beq_iff_eq];omega
theorem inR28 {n:Nat}:inR (n:Int) 2 8=(decide (2≤n)&&decide (n≤8)):=by
 unfold inR
 rw [Bool.eq_iff_iff];simp only [Bool.and_eq_true,decide_eq_true_iff];omega
theorem zb14 {x0:Int}{x1:ByteArray}{A:Option Addr}{c:Nat}{l:List E}:headI (E.agg [.int .i64 x0,.str x1,.lst 3 140 A c l])=(headR x0 x1 l&&!((x0==4||x0==5)&&l.any fun x=>x.rk==x0)):=rfl
theorem zx19 {l:List E}{y:E}(h1:l.length=1)(h2:l[0]? = some y):l=[y]:=by
 match l,h1,h2 with
 | [z],_,h2=>simpa using h2
theorem zy19 {x0:Int}{x1:ByteArray}{l:List E}(h:∀k:Int,1≤k→k≤11→x0≠k):headR x0 x1 l=false:=by
 unfold headR
 have h1:=h 1 (by omega) (by omega);have h2:=h 2 (by omega) (by omega);have h3:=h 3 (by omega) (by omega);have h4:=h 4 (by omega) (by omega);have h5:=h 5 (by omega) (by omega);have h6:=h 6 (by omega) (by omega)
 have h7:=h 7 (by omega) (by omega);have h8:=h 8 (by omega) (by omega);have h9:=h 9 (by omega) (by omega);have h10:=h 10 (by omega) (by omega);have h11:=h 11 (by omega) (by omega)
 simp [h1,h2,h3,h4,h5,h6,h7,h8,h9,h10,h11]
set_option maxHeartbeats 8000000 in
theorem zo21 {f:Nat}(ih:∀(e:E) (deep:Nat),e.Ty Tryz.prog 140→e.sz≤4194304→deep+f=7→Ctr Tryz.prog 143 [.ag (acE e),.c (.v (.int .i64 (deep:Int)))] [] (.c (.v (.int .i64 ((partsI f e:Nat):Int)))) [])(e:E)(deep:Nat)(he:e.Ty Tryz.prog 140)(hsz:e.sz≤4194304)(hd:deep+(f+1)=7):Ctr Tryz.prog 143 [.ag (acE e),.c (.v (.int .i64 (deep:Int)))] [] (.c (.v (.int .i64 ((partsI (f+1) e:Nat):Int)))) []:=by
 obtain⟨x0,x1,x2A,x2c,l,rfl,gx0,gx1,gx2,-⟩:=zu1 he
 simp only [E.sz,E.szL] at hsz
 have hl:l.length≤4194304:=by omega
 refine ze1 Tryz.func143 rfl rfl ?_
 repeat' (first|(apply f_wo;first|(apply f_as;refine zq (v:=.c _) ?_)|refine n_bo ?_)|(apply f_w;first|refine zj ?_|refine zb ?_)|refine za fun C=>?_|refine zo13 ?_)
 refine zd ?_
 repeat' (first|(apply f_wo;first|(apply f_mv;refine zv (v:=.c _) ?_)|(apply zn3;refine za2 ?_))|(apply f_w;first|refine zj ?_|refine zb ?_)|refine za fun C=>?_|refine zo13 ?_)
 refine zy2 (by rfl) (fun h=>by simp at h;omega) fun h=>?_
 refine zg ?_
 repeat' (first|(apply f_wo;(apply f_as;refine zq (v:=.c _) ?_))|(apply f_w;first|refine zj ?_|refine zb ?_)|refine za fun C=>?_|refine zo13 ?_)
 refine awp_join ⟨tmsF [(1,.c (.v (.int .i64 (deep:Int)))),(2,.c (.pt 2 0)),(5,.c (.v (.bool (headI (E.agg [.int .i64 x0,.str x1,.lst 3 140 x2A x2c l])))))],hpsF [(2,2,⟨140,0,0,true,[.v (.int .i64 x0),.v (.string x1),.ro l.length 3 (acL l)]⟩)],0,[2],115⟩ ?_ ?_
 ·have c1:=setOk_c (s:=x1) (by omega)
  have c2:=za11 (zq5 x1 0)
  have c3:=con1Rex_c gx2.1 gx2.2 (by omega) (b:=[.v (.int .i64 x0),.v (.string x1),.ro l.length 3 (acL l)]) (by simp [cloL,clo,zk]) (fun x=>x.rk==x0) 154 (fun x hx=>cloRex_c (gx2.1 x hx) x0 rfl (by simp [clo,zk]))
  rw [zb14]
  clear ih he
  by_cases hin:x0=1∨x0=2∨x0=3∨x0=4∨x0=5∨x0=9∨x0=10∨x0=11
  ·rcases hin with rfl|rfl|rfl|rfl|rfl|rfl|rfl|rfl
   all_goals
    repeat' (first|(apply f_wo;first|(apply f_gs;refine n_sk ?_)|(apply f_mv;(refine zx1 ?_ ?_<;>intro hG<;>(try cases hG)))|(apply f_as;refine zq (v:=.c _) ?_)|(apply f_fa;refine n_fa ?_)|(apply f_ld;refine zn1 ?_)|(apply f_ca;first|refine zk1 c1 ?_|refine zk1 c2 ?_|refine zk1 ((zy5 _ _ _)) ?_|refine zh2 2 (c3) ?_)|(apply f_bi;first|refine zy1 ?_|refine za4 ?_)|(apply zr1;first|refine zm ?_|refine zr2 ?_)|(apply f_no;refine zu2 ?_)|(apply f_pk;refine zw1 (v:=.c _) ?_)|refine zw6 ?_|refine zz1 ?_)|(apply f_w;first|refine zj ?_|refine zb ?_)|refine za fun C=>?_|refine zd ?_|refine ze ?_|refine zg ?_|(refine zi (by rfl) ?_ ?_<;>intro hC<;>(try cases hC)))
   all_goals
    (show Gh _ _
     refine zl1 _ _ rfl rfl (TmOk.cons rfl (TmOk.cons rfl (TmOk.cons (zp13 rfl (Lib.hid ?_)) TmOk.nil))) (RwOk.cons (zb1 rfl ?_) RwOk.nil)
     ·unfold headR
      clear c1 c2 c3 gx0 gx1 gx2 hsz hl hd h
      (try simp only [za14,ib0,ib1,inR28] at *)
      first
       | (simp_all;done)
       | (simp_all;intros;omega)
     ·simp [cloL,clo,zk])
  ·by_cases hlp:x0=6∨x0=7∨x0=8
   ·by_cases hl1:l.length=1
    ·obtain⟨y,hy⟩:∃y,l[0]? = some y:=⟨_,List.getElem?_eq_getElem (by omega)⟩
     have hgk:=gx2.2
     have hyt:=gx2.1 y (List.mem_of_getElem? hy)
     have c4:=isLoop_c hyt
     have hl2:=zx19 hl1 hy
     obtain⟨y0,y1,y2A,y2c,y2l,rfl,gy0,gy1,gy2,-⟩:=zu1 hyt
     have hh:headR x0 x1 l=(x1.size==0&&!(loopK y0)):=by
      rw [hl2]
      unfold headR
      rcases hlp with rfl|rfl|rfl<;>simp [E.rk]
     have hh2:(headR x0 x1 l&&!((x0==4||x0==5)&&l.any fun x=>x.rk==x0))=(x1.size==0&&!(loopK y0)):=by
      rw [hh]
      rcases hlp with rfl|rfl|rfl<;>simp
     rw [hh2]
     clear hh hh2 c1 c2 c3
     rcases hlp with rfl|rfl|rfl
     all_goals
      repeat' (first|(apply f_wo;first|(apply f_gs;refine n_sk ?_)|(apply f_mv;(refine zx1 ?_ ?_<;>intro hG<;>(try cases hG)))|(apply f_as;refine zq (v:=.c _) ?_)|(apply f_fa;refine n_fa ?_)|(apply f_ld;first|refine zn1 ?_|refine zq2 ?_)|(apply f_ca;refine zk1 c4 ?_)|(apply f_bi;refine zy1 ?_)|(apply f_ia;refine n_ix ?_)|(apply zr1;first|refine zm ?_|refine zr2 ?_)|(apply f_no;refine zu2 ?_)|(apply f_pk;refine zw1 (v:=.c _) ?_))|(apply f_w;first|refine zj ?_|refine zb ?_)|refine za fun C=>?_|refine zd ?_|refine ze ?_|refine zg ?_|(refine zi (by rfl) ?_ ?_<;>intro hC<;>(try cases hC)))
     all_goals first
      | (exfalso;simp [hl1] at hG;done)
      | (show Gh _ _
         refine zl1 _ _ rfl rfl (TmOk.cons rfl (TmOk.cons rfl (TmOk.cons (zp13 rfl (Lib.hid ?_)) TmOk.nil))) (RwOk.cons (zb1 rfl ?_) RwOk.nil)
         ·clear c4 gx0 gx1 gx2 gy0 gy1 gy2 hsz hl hd h hgk hyt
          (try simp only [E.rk,za14,ib0,ib1,inR28] at *)
          first
           | (simp_all;done)
           | (simp_all;intros;omega)
         ·simp [cloL,clo,zk])
    ·have hh:(headR x0 x1 l&&!((x0==4||x0==5)&&l.any fun x=>x.rk==x0))=false:=by
      unfold headR
      rcases hlp with rfl|rfl|rfl<;>simp [hl1]
     have hl1':((l.length:Int)==1)=false:=by rw [ib1];simpa using hl1
     rw [hh]
     clear hh c1 c2 c3
     rcases hlp with rfl|rfl|rfl
     all_goals
      repeat' (first|(apply f_wo;first|(apply f_gs;refine n_sk ?_)|(apply f_mv;(refine zx1 ?_ ?_<;>intro hG<;>(try cases hG)))|(apply f_as;refine zq (v:=.c _) ?_)|(apply f_fa;refine n_fa ?_)|(apply f_ld;refine zn1 ?_)|(apply f_bi;refine zy1 ?_)|(apply zr1;first|refine zm ?_|refine zr2 ?_)|(apply f_pk;refine zw1 (v:=.c _) ?_))|(apply f_w;first|refine zj ?_|refine zb ?_)|refine za fun C=>?_|refine zd ?_|refine ze ?_|refine zg ?_|(refine zi (by rfl) ?_ ?_<;>intro hC<;>(try cases hC)))
     all_goals first
      | (exfalso;rw [hl1'] at hG;cases hG;done)
      | (show Gh _ _
         refine zl1 _ _ rfl rfl (TmOk.cons rfl (TmOk.cons rfl (TmOk.cons (zp13 rfl (Lib.hid ?_)) TmOk.nil))) (RwOk.cons (zb1 rfl ?_) RwOk.nil)
         ·first
           | rfl
           | simp_all
         ·simp [cloL,clo,zk])
   ·have hk:∀k:Int,1≤k→k≤11→x0≠k:=fun k g1 g2 g3=>by omega
    rw [zy19 hk,Bool.false_and]
    clear c1 c2 c3
    repeat' (first|(apply f_wo;first|(apply f_as;refine zq (v:=.c _) ?_)|(apply f_fa;refine n_fa ?_)|(apply f_ld;refine zn1 ?_)|(apply zr1;refine zm ?_))|(apply f_w;first|refine zj ?_|refine zb ?_)|refine za fun C=>?_|refine zd ?_|refine ze ?_)
    iterate 15
     (first
       | refine zf1 rfl ?_
       | refine zi (by rfl) (fun hC=>absurd (eq_of_beq hC) (hk _ (by omega) (by omega))) fun hC=>?_
       | skip)<;>repeat' (first|(apply f_wo;first|(apply f_as;refine zq (v:=.c _) ?_)|(apply zr1;refine zm ?_))|(apply f_w;first|refine zj ?_|refine zb ?_)|refine za fun C=>?_|refine zd ?_|refine zg ?_)
    (show Gh _ _
     refine zl1 _ _ rfl rfl (TmOk.cons rfl (TmOk.cons rfl (TmOk.cons (zp13 rfl (Lib.hid ?_)) TmOk.nil))) (RwOk.cons (zb1 rfl ?_) RwOk.nil)
     ·rfl
     ·simp [cloL,clo,zk])
 ·cases hh:headI (E.agg [.int .i64 x0,.str x1,.lst 3 140 x2A x2c l]) with
  | false =>
   repeat' (first|(apply f_wo;first|(apply f_mv;refine zv (v:=.c _) ?_)|(apply f_as;refine zq (v:=.c _) ?_)|(apply f_no;refine zu2 ?_))|(apply f_w;first|refine zj ?_|refine zb ?_)|refine za fun C=>?_|refine zd ?_|refine za1 rfl ?_)
   refine zh ?_
   refine ret0 (x:=.c (.v (.int .i64 61))) rfl zg1 ⟨?_,rfl⟩
   unfold partsI;rw [hh];rfl
  | true =>
   have hres:partsI (f+1) (E.agg [.int .i64 x0,.str x1,.lst 3 140 x2A x2c l])=sumI (partsI f) l 1:=by unfold partsI;rw [hh];rfl
   rw [hres]
   clear hres
   generalize hT:sumI (partsI f) l 1=tot
   repeat' (first|(apply f_wo;first|(apply f_mv;refine zv (v:=.c _) ?_)|(apply f_as;refine zq (v:=.c _) ?_)|(apply f_fa;refine n_fa ?_)|(apply f_ld;refine zn1 ?_)|(apply f_bi;refine zy1 ?_)|(apply f_no;refine zu2 ?_))|(apply f_w;first|refine zj ?_|refine zb ?_)|refine za fun C=>?_|refine zd ?_|refine ze ?_|refine zg ?_|refine zf1 rfl ?_)
   refine zv1 (fun d:Nat×Nat=>⟨tmsF [(1,.c (.v (.int .i64 (deep:Int)))),(6,.c (.v (.int .i64 (d.2:Int)))),(99,.c (.ro l.length 3 (acL l))),(100,.c (.v (.int .i64 l.length))),(101,.c (.v (.int .i64 (d.1:Int))))],hpsF [],0,[],115⟩) (fun N d=>d.1+N=l.length∧d.2≤60∧sumI (partsI f) (l.drop d.1) d.2=tot) l.length (0,1) ⟨by simp,by simp,hT⟩ ?_ ?_
   ·(refine zl1 _ _ rfl rfl ?_ ?_<;>(repeat' (first|exact TmOk.nil|exact RwOk.nil|refine TmOk.cons ?_ ?_|refine RwOk.cons ?_ ?_|rfl|(refine rnV_id' rfl ?_;exact byc)|(refine zp1 ?_;first|rfl|omega|(rw [zw (by omega) (by omega)];omega))|(refine zb1 rfl ?_;exact byc)|exact zc2 rfl rfl|(refine zq1 (by rfl) (by rfl) ?_ ?_<;>exact byc)|(refine rw_rn' rfl rfl ?_;simp;done))))
   rintro N ⟨k,n⟩ ⟨hN,hn,hs⟩
   dsimp only at hN hn hs ⊢
   repeat' (first|(apply f_wo;(apply zg3;refine zs1 ?_))|(apply f_w;first|refine zj ?_|refine zb ?_)|refine za fun C=>?_|refine zd ?_)
   refine zi (by rfl) (fun h1=>?_) fun h1=>?_
   ·have hk:k<l.length:=by simpa using h1
    obtain⟨x,hx⟩:∃x,l[k]? = some x:=⟨_,List.getElem?_eq_getElem hk⟩
    have hxt:=gx2.1 x (List.mem_of_getElem? hx)
    have hxs:=E.szL_mem (List.mem_of_getElem? hx)
    have hc:=ih x (deep+1) hxt (by omega) (by omega)
    have hb:=partsI_le f x
    have hd1:l.drop k=x :: l.drop (k+1):=by rw [List.drop_eq_getElem_cons hk];congr 1;rw [List.getElem?_eq_getElem hk] at hx;exact Option.some.inj hx
    rw [hd1] at hs
    unfold sumI at hs
    have hgk:=gx2.2
    obtain⟨y0,y1,y2A,y2c,y2l,rfl,gy0,gy1,gy2,-⟩:=zu1 hxt
    repeat' (first|(apply f_wo;first|(apply f_mv;refine zv (v:=.c _) ?_)|(apply f_as;refine zq (v:=.c _) ?_)|(apply f_ld;first|refine zq2 ?_|refine zs2 ?_)|(apply f_ca;refine zk1 hc ?_)|(apply f_st;refine n_st ?_)|(apply f_ia;refine n_ix ?_)|(apply f_geq;refine zs7 ?_)|(apply zd2;refine zj1 ?_)|refine n_al ?_)|(apply f_w;first|refine zj ?_|refine zb ?_)|refine za fun C=>?_|refine zd ?_|refine ze ?_|refine zg ?_)
    refine zi (by rfl) (fun h2=>?_) fun h2=>?_
    ·have h3:61≤n+partsI f (E.agg [.int .i64 y0,.str y1,.lst 3 140 y2A y2c y2l]):=by simp at h2;omega
     repeat' (first|(apply f_wo;(apply f_as;refine zq (v:=.c _) ?_))|(apply f_w;first|refine zj ?_|refine zb ?_)|refine za fun C=>?_|refine zd ?_)
     refine zh ?_
     refine ret0 (x:=.c (.v (.int .i64 61))) rfl zg1 ⟨?_,rfl⟩
     rw [if_pos h3] at hs
     rw [←hs];rfl
    ·have h3:¬61≤n+partsI f (E.agg [.int .i64 y0,.str y1,.lst 3 140 y2A y2c y2l]):=by simp at h2;omega
     rw [if_neg h3] at hs
     repeat' (first|(apply f_wo;first|(apply f_mv;refine zv (v:=.c _) ?_)|(apply zd2;refine zj1 ?_))|(apply f_w;first|refine zj ?_|refine zb ?_)|refine za fun C=>?_|refine zg ?_)
     refine⟨N-1,(k+1,n+partsI f (E.agg [.int .i64 y0,.str y1,.lst 3 140 y2A y2c y2l])),by omega,⟨by dsimp only;omega,by dsimp only;omega,hs⟩,?_⟩
     (refine zl1 _ _ rfl rfl ?_ ?_<;>(repeat' (first|exact TmOk.nil|exact RwOk.nil|refine TmOk.cons ?_ ?_|refine RwOk.cons ?_ ?_|rfl|(refine rnV_id' rfl ?_;exact byc)|(refine zp1 ?_;first|rfl|omega|(rw [zw (by omega) (by omega)];omega))|(refine zb1 rfl ?_;exact byc)|exact zc2 rfl rfl|(refine zq1 (by rfl) (by rfl) ?_ ?_<;>exact byc)|(refine rw_rn' rfl rfl ?_;simp;done))))
   ·have hk:k=l.length:=by simp at h1;omega
    repeat' (first|(apply f_wo;first|(apply f_mv;refine zv (v:=.c _) ?_)|(apply f_as;refine zq (v:=.c _) ?_))|(apply f_w;first|refine zj ?_|refine zb ?_)|refine za fun C=>?_|refine zd ?_|refine zu ?_)
    refine zh ?_
    refine ret0 (x:=.c (.v (.int .i64 (n:Int)))) rfl zg1 ⟨?_,rfl⟩
    rw [hk,List.drop_length] at hs
    rw [←hs];rfl
theorem zp21 (f:Nat):∀(e:E) (deep:Nat),e.Ty Tryz.prog 140→e.sz≤4194304→deep+f=7→Ctr Tryz.prog 143 [.ag (acE e),.c (.v (.int .i64 (deep:Int)))] [] (.c (.v (.int .i64 ((partsI f e:Nat):Int)))) []:=by
 induction f with
 | zero =>
  intro e deep he hsz hd
  obtain⟨x0,x1,x2A,x2c,l,rfl,gx0,gx1,gx2,-⟩:=zu1 he
  refine ze1 Tryz.func143 rfl rfl ?_
  obtain rfl:deep=7:=by omega
  repeat' (first|(apply f_wo;first|(apply f_mv;refine zv (v:=.c _) ?_)|(apply f_as;refine zq (v:=.c _) ?_)|(apply zn3;refine za2 ?_)|refine n_bo ?_)|(apply f_w;first|refine zj ?_|refine zb ?_)|refine za fun C=>?_|refine zd ?_|refine za1 rfl ?_)
  refine zh ?_
  exact ret0 (x:=.c (.v (.int .i64 61))) rfl zg1 ⟨rfl,rfl⟩
 | succ f ih=>exact zo21 ih
def intE:E→Int
 | .int _ z=>z
 | _=>0
theorem indInt_c {l:List E}(hl:∀e∈l,e.Ty Tryz.prog 3)(hk:∀e∈l,e.enc.length=1)(hlen:l.length≤1073741824)(v:Int):Ctr Tryz.prog 164 [.c (.ro l.length 1 (acL l)),.c (.v (.int .i64 v))] [] (.c (.v (.int .i64 (idxF (fun e=>v==intE e) l)))) []:=by
 refine ze1 Tryz.func164 rfl rfl ?_
 repeat (first|refine zd ?_|refine ze ?_|refine zg ?_|refine zu ?_|refine zh ?_|refine za fun C=>?_|refine zn (by kernel_rfl) (by kernel_rfl) fun C=>?_|refine zb ?_|refine zm2 ?_|refine x_bs ?_|refine x_gr ?_|refine x_st ?_|refine x_mv ?_|refine x_sk ?_|refine zd3 ?_|refine x_ix ?_|refine za3 ?_|refine ze3 ?_|refine zb3 ?_|refine zk2 ?_|refine x_ld ?_)
 refine zv1 (fun k:Nat=>⟨tmsF [(0,.c (.ro l.length 1 (acL l))),(1,.c (.v (.int .i64 v))),(7,.c (.v (.int .i64 l.length))),(8,.c (.v (.int .i64 k)))],hpsF [],0,[],19⟩)
  (fun N k=>k+N=l.length∧∀j y,j<k→l[j]? = some y→(fun e=>v==intE e) y=false) l.length 0 ⟨by omega,by omega⟩ ?_ ?_
 ·(refine zl1 _ _ rfl rfl ?_ ?_<;>(repeat' (first|exact TmOk.nil|exact RwOk.nil|refine TmOk.cons ?_ ?_|refine RwOk.cons ?_ ?_|rfl|(refine rnV_id' rfl ?_;exact byc)|(refine zp1 ?_;first|rfl|omega|(rw [zw (by omega) (by omega)];omega))|(refine zb1 rfl ?_;exact byc)|exact zc2 rfl rfl|(refine zq1 (by rfl) (by rfl) ?_ ?_<;>exact byc)|(refine rw_rn' rfl rfl ?_;simp;done))))
 rintro N k ⟨hN,hno⟩
 repeat (first|refine zd ?_|refine ze ?_|refine zg ?_|refine zu ?_|refine zh ?_|refine za fun C=>?_|refine zn (by kernel_rfl) (by kernel_rfl) fun C=>?_|refine zb ?_|refine zm2 ?_|refine x_bs ?_|refine x_gr ?_|refine x_st ?_|refine x_mv ?_|refine x_sk ?_|refine zd3 ?_|refine x_ix ?_|refine za3 ?_|refine ze3 ?_|refine zb3 ?_|refine zk2 ?_|refine x_ld ?_)
 refine zy2 (by rfl) (fun h1=>?_) fun h1=>?_
 ·have hk':k<l.length:=by simpa using h1
  obtain⟨x,hx⟩:∃x,l[k]? = some x:=⟨_,List.getElem?_eq_getElem hk'⟩
  have hxt:=hl x (List.mem_of_getElem? hx)
  obtain⟨y0,rfl,-⟩:=hxt.int_ Tryz.underlying3
  repeat (first|refine zd ?_|refine ze ?_|refine zg ?_|refine zu ?_|refine zh ?_|refine za fun C=>?_|refine zn (by kernel_rfl) (by kernel_rfl) fun C=>?_|refine zb ?_|refine zm2 ?_|refine x_bs ?_|refine x_gr ?_|refine x_st ?_|refine x_mv ?_|refine x_sk ?_|refine zd3 ?_|refine x_ix ?_|refine za3 ?_|refine ze3 ?_|refine zb3 ?_|refine zk2 ?_|refine x_ld ?_)
  refine zy2 (by rfl) (fun h2=>?_) fun h2=>?_
  ·repeat (first|refine zd ?_|refine ze ?_|refine zg ?_|refine zu ?_|refine zh ?_|refine za fun C=>?_|refine zn (by kernel_rfl) (by kernel_rfl) fun C=>?_|refine zb ?_|refine zm2 ?_|refine x_bs ?_|refine x_gr ?_|refine x_st ?_|refine x_mv ?_|refine x_sk ?_|refine zd3 ?_|refine x_ix ?_|refine za3 ?_|refine ze3 ?_|refine zb3 ?_|refine zk2 ?_|refine x_ld ?_)
   refine ret0 (x:=.c (.v (.int .i64 k))) rfl zg1 ⟨?_,rfl⟩
   rw [zb7 hno hx (by simpa [intE,strB] using h2)]
  ·repeat (first|refine zd ?_|refine ze ?_|refine zg ?_|refine zu ?_|refine zh ?_|refine za fun C=>?_|refine zn (by kernel_rfl) (by kernel_rfl) fun C=>?_|refine zb ?_|refine zm2 ?_|refine x_bs ?_|refine x_gr ?_|refine x_st ?_|refine x_mv ?_|refine x_sk ?_|refine zd3 ?_|refine x_ix ?_|refine za3 ?_|refine ze3 ?_|refine zb3 ?_|refine zk2 ?_|refine x_ld ?_)
   refine⟨N-1,k+1,by omega,⟨by omega,fun j z hj hz=>?_⟩,?_⟩
   ·by_cases e:j=k
    ·rw [e,hx] at hz;injection hz with hz;subst hz;simpa [intE,strB] using h2
    ·exact hno j z (by omega) hz
   ·(refine zl1 _ _ rfl rfl ?_ ?_<;>(repeat' (first|exact TmOk.nil|exact RwOk.nil|refine TmOk.cons ?_ ?_|refine RwOk.cons ?_ ?_|rfl|(refine rnV_id' rfl ?_;exact byc)|(refine zp1 ?_;first|rfl|omega|(rw [zw (by omega) (by omega)];omega))|(refine zb1 rfl ?_;exact byc)|exact zc2 rfl rfl|(refine zq1 (by rfl) (by rfl) ?_ ?_<;>exact byc)|(refine rw_rn' rfl rfl ?_;simp;done))))
 ·have hk':¬k<l.length:=by simpa using h1
  repeat (first|refine zd ?_|refine ze ?_|refine zg ?_|refine zu ?_|refine zh ?_|refine za fun C=>?_|refine zn (by kernel_rfl) (by kernel_rfl) fun C=>?_|refine zb ?_|refine zm2 ?_|refine x_bs ?_|refine x_gr ?_|refine x_st ?_|refine x_mv ?_|refine x_sk ?_|refine zd3 ?_|refine x_ix ?_|refine za3 ?_|refine ze3 ?_|refine zb3 ?_|refine zk2 ?_|refine x_ld ?_)
  refine ret0 (x:=.c (.v (.int .i64 (-1)))) rfl zg1 ⟨?_,rfl⟩
  rw [zy4 fun j y hj hy=>hno j y (by omega) hy]
theorem hasInt_c {l:List E}(hl:∀e∈l,e.Ty Tryz.prog 3)(hk:∀e∈l,e.enc.length=1)(hlen:l.length≤1073741824)(v:Int):Ctr Tryz.prog 156 [.c (.ro l.length 1 (acL l)),.c (.v (.int .i64 v))] [] (.c (.v (.bool (l.any (fun e=>v==intE e))))) []:=by
 refine ze1 Tryz.func156 rfl rfl ?_
 have hcc:=indInt_c hl hk hlen v
 repeat (first|refine zd ?_|refine ze ?_|refine zg ?_|refine zu ?_|refine zh ?_|refine za fun C=>?_|refine zn (by kernel_rfl) (by kernel_rfl) fun C=>?_|refine zb ?_|refine zm2 ?_|refine x_bs ?_|refine x_gr ?_|refine x_st ?_|refine x_mv ?_|refine x_sk ?_|refine zd3 ?_|refine x_ix ?_|refine za3 ?_|refine ze3 ?_|refine zb3 ?_|refine zk2 ?_|refine x_ld ?_)
 refine zn7 hcc ?_
 repeat (first|refine zd ?_|refine ze ?_|refine zg ?_|refine zu ?_|refine zh ?_|refine za fun C=>?_|refine zn (by kernel_rfl) (by kernel_rfl) fun C=>?_|refine zb ?_|refine zm2 ?_|refine x_bs ?_|refine x_gr ?_|refine x_st ?_|refine x_mv ?_|refine x_sk ?_|refine zd3 ?_|refine x_ix ?_|refine za3 ?_|refine ze3 ?_|refine zb3 ?_|refine zk2 ?_|refine x_ld ?_)
 refine ret0 (x:=.c (.v (.bool (decide (idxF (fun e=>v==intE e) l ≥ 0))))) rfl zg1 ⟨?_,rfl⟩
 rw [zp7]
theorem zb11 {e:E}(he:e.Ty Tryz.prog 140)(hsz:e.sz≤4194304):Ctr Tryz.prog 133 [.ag (acE e)] [] (.c (.v (.bool (rexOkI e)))) []:=by
 have hc:=zp21 6 e 1 he hsz rfl
 obtain⟨x0,x1,x2A,x2c,l,rfl,gx0,gx1,gx2,-⟩:=zu1 he
 refine ze1 Tryz.func133 rfl rfl ?_
 repeat' (first|(apply f_wo;first|(apply f_as;refine zq (v:=.c _) ?_)|(apply f_ld;refine zs2 ?_)|(apply f_ca;refine zk1 hc ?_)|(apply zo4;refine zl2 ?_)|refine n_bo ?_)|(apply f_w;first|refine zj ?_|refine zb ?_)|refine za fun C=>?_|refine zd ?_)
 (first|refine zh ?_|skip);refine ret0 rfl zg1 ⟨?_,rfl⟩;refine congrArg (fun s=>AV.c (AC.v (Value.bool s))) ?_
 unfold rexOkI
 (rw [Bool.eq_iff_iff];(try simp only [Bool.and_eq_true,Bool.or_eq_true,Bool.not_eq_true',decide_eq_true_iff,decide_eq_false_iff_not,beq_iff_eq,Bool.and_eq_false_iff,Bool.or_eq_false_iff,bne_iff_ne,ne_eq,Bool.true_eq_false,Bool.false_eq_true,true_iff,false_iff,iff_true,iff_false] at *);first|omega|(simp at *;omega))
def withK (ks:List Int)(k:Int)(t:ByteArray):ByteArray:=if ks.any (fun x=>k==x) then ⟨#[40]⟩++t++⟨#[41]⟩ else t
end Go.Proofs.YtnjfnhoipnbpeaaGreatDoor
