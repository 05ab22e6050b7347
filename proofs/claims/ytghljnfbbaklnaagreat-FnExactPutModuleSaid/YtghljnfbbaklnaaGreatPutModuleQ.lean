/- Texts and values put and got, both sides. -/
import Derived.Test.YtghljnfbbaklnaaGreatPutModuleP
-- BIT
-- MVP
namespace Go.Proofs.YtghljnfbbaklnaaGreat
open Go.RowKit
set_option maxRecDepth 100000
def strBs (s:ByteArray):List UInt8:=s.data.toList
def putT (s:ByteArray):List UInt8:=putU (s.size:Int)++strBs s
theorem zf9 (s:ByteArray):(strBs s).length=s.size:=by unfold strBs;simp
theorem zc8 (a b:List UInt8):bytC (a++b)=bytC a++bytC b:=by simp [bytC]
theorem zg9 {bs:List UInt8}(s:ByteArray)(hn:bs.length≤1073741824)(hs:s.size≤1048576):Ctr Tryz.prog 40 [.c (.ro bs.length 1 (bytC bs)),.c (.v (.string s))] [] (.c (.ow 5 (bs++putT s).length 1 (bytC (bs++putT s)))) []:=by
 have c1:=zf5 (bs:=bs) (s.size:Int) hn
 have hl:=zr3 (s.size:Int)
 have hl2:(bs++putU (s.size:Int)).length≤1073741839:=by rw [List.length_append];omega
 refine zo2 Tryz.func40 rfl rfl ?_
 repeat' (first|(apply f_wo;first|(apply f_mv;first|refine zj1 (v:=.c _) ?_|refine za ?_)|(apply f_as;first|refine zi1 (v:=.c _) ?_|refine za ?_)|(apply f_ca;first|refine zj4 c1 ?_|refine zk4 c1 ?_)|(apply f_bi;first|refine zb1 ?_|refine za1 ?_|refine zc1 ?_|refine zc2 ?_|refine zc2 (hnu:=ze _) ?_|refine zp1 ?_|refine zp1 (hnu:=ze _) ?_|refine za ?_)|refine za ?_)|(apply f_w;first|refine zv ?_|refine zc ?_)|refine zb fun C=>?_|refine zh ?_|refine zd ?_|refine zf ?_|refine zg ?_)
 refine zu ?_
 refine ret0 rfl (zv8 (zk3 (rw:=⟨5,1,(bs++putU (s.size:Int)).length+s.size,false,bytC (bs++putU (s.size:Int))++bytC (strBs s)⟩) rfl rfl rfl (by rw [←zc8];exact zq2 _) zn2)) ⟨zf11 (by rw [←zc8,putT,List.append_assoc]) (by simp [putT,zf9];omega),rfl⟩
theorem zh9 {bs:List UInt8}(s:ByteArray)(hn:bs.length≤1073741824)(hs:s.size≤1048576):Ctr Tryz.prog 32 [.c (.ro bs.length 1 (bytC bs)),.c (.v (.string s))] [] (.c (.ow 5 (bs++putT s).length 1 (bytC (bs++putT s)))) []:=by
 have c1:=zg5 (bs:=bs) (s.size:Int) hn
 have hl:=zr3 (s.size:Int)
 have hl2:(bs++putU (s.size:Int)).length≤1073741839:=by rw [List.length_append];omega
 refine zo2 Tryz.func32 rfl rfl ?_
 repeat' (first|(apply f_wo;first|(apply f_mv;first|refine zj1 (v:=.c _) ?_|refine za ?_)|(apply f_as;first|refine zi1 (v:=.c _) ?_|refine za ?_)|(apply f_ca;first|refine zj4 c1 ?_|refine zk4 c1 ?_)|(apply f_bi;first|refine zb1 ?_|refine za1 ?_|refine zc1 ?_|refine zc2 ?_|refine zc2 (hnu:=ze _) ?_|refine zp1 ?_|refine zp1 (hnu:=ze _) ?_|refine za ?_)|refine za ?_)|(apply f_w;first|refine zv ?_|refine zc ?_)|refine zb fun C=>?_|refine zh ?_|refine zd ?_|refine zf ?_|refine zg ?_)
 refine zu ?_
 refine ret0 rfl (zv8 (zk3 (rw:=⟨5,1,(bs++putU (s.size:Int)).length+s.size,false,bytC (bs++putU (s.size:Int))++bytC (strBs s)⟩) rfl rfl rfl (by rw [←zc8];exact zq2 _) zn2)) ⟨zf11 (by rw [←zc8,putT,List.append_assoc]) (by simp [putT,zf9];omega),rfl⟩
def putV (k n:Int)(s:ByteArray):List UInt8:=putU k++if k=1 then putS n else if k=2 then putT s else []
theorem putS_len (n:Int):(putS n).length≤6:=sGo_len 5 _
theorem zm16 {bs:List UInt8}{k n:Int}{s:ByteArray}(hi : -9223372036854775808≤n∧n≤9223372036854775807)(hn:bs.length≤1073741000)(hs:s.size≤1048576):Ctr Tryz.prog 39 [.c (.ro bs.length 1 (bytC bs)),.ag [.v (.int .i64 k),.v (.int .i64 n),.v (.string s)]] [] (.c (.ow 5 (bs++putV k n s).length 1 (bytC (bs++putV k n s)))) []:=by
 have c1:=zf5 (bs:=bs) k (by omega)
 have hl:=zr3 k
 have hl2:(bs++putU k).length≤1073741824:=by rw [List.length_append];omega
 have c2:=zx20 (bs:=bs++putU k) (n:=n) hi hl2
 have c3:=zg9 (bs:=bs++putU k) s hl2 hs
 rw [List.append_assoc] at c2 c3
 by_cases k1:k=1
 ·subst k1
  rw [show putV 1 n s=putU 1++putS n from rfl]
  refine zo2 Tryz.func39 rfl rfl ?_
  repeat' (first|(apply f_wo;first|(apply f_mv;first|refine zj1 (v:=.c _) ?_|refine za ?_)|(apply f_as;first|refine zi1 (v:=.c _) ?_|refine za ?_)|(apply f_fa;first|refine n_fa ?_|refine zm1 ?_)|(apply f_ld;first|refine zq1 ?_|refine zx ?_|refine n_ld ?_)|(apply f_ca;first|refine zj4 c1 ?_|refine zk4 c1 ?_|refine zj4 c2 ?_|refine zk4 c2 ?_|refine zj4 c3 ?_|refine zk4 c3 ?_)|(apply ze2;first|refine zy ?_|refine za ?_)|refine n_bo ?_|refine za ?_)|(apply f_w;first|refine zv ?_|refine zc ?_)|refine zb fun C=>?_|refine zh ?_|refine zd ?_|refine zf ?_|refine zg ?_|refine zt rfl ?_|refine zp rfl ?_)
  refine zu ?_
  exact ret0 rfl (zv8 (zk3 rfl rfl rfl (zq2 _) zn2)) ⟨rfl,rfl⟩
 ·by_cases k2:k=2
  ·subst k2
   rw [show putV 2 n s=putU 2++putT s from rfl]
   refine zo2 Tryz.func39 rfl rfl ?_
   repeat' (first|(apply f_wo;first|(apply f_mv;first|refine zj1 (v:=.c _) ?_|refine za ?_)|(apply f_as;first|refine zi1 (v:=.c _) ?_|refine za ?_)|(apply f_fa;first|refine n_fa ?_|refine zm1 ?_)|(apply f_ld;first|refine zq1 ?_|refine zx ?_|refine n_ld ?_)|(apply f_ca;first|refine zj4 c1 ?_|refine zk4 c1 ?_|refine zj4 c2 ?_|refine zk4 c2 ?_|refine zj4 c3 ?_|refine zk4 c3 ?_)|(apply ze2;first|refine zy ?_|refine za ?_)|refine n_bo ?_|refine za ?_)|(apply f_w;first|refine zv ?_|refine zc ?_)|refine zb fun C=>?_|refine zh ?_|refine zd ?_|refine zf ?_|refine zg ?_|refine zt rfl ?_|refine zp rfl ?_)
   refine zu ?_
   exact ret0 rfl (zv8 (zk3 rfl rfl rfl (zq2 _) zn2)) ⟨rfl,rfl⟩
  ·rw [show putV k n s=putU k by unfold putV;rw [if_neg k1,if_neg k2,List.append_nil]]
   refine zo2 Tryz.func39 rfl rfl ?_
   repeat' (first|(apply f_wo;first|(apply f_mv;first|refine zj1 (v:=.c _) ?_|refine za ?_)|(apply f_as;first|refine zi1 (v:=.c _) ?_|refine za ?_)|(apply f_fa;first|refine n_fa ?_|refine zm1 ?_)|(apply f_ld;first|refine zq1 ?_|refine zx ?_|refine n_ld ?_)|(apply f_ca;first|refine zj4 c1 ?_|refine zk4 c1 ?_)|(apply ze2;first|refine zy ?_|refine za ?_)|refine n_bo ?_|refine za ?_)|(apply f_w;first|refine zv ?_|refine zc ?_)|refine zb fun C=>?_|refine zh ?_|refine zd ?_|refine zf ?_|refine zg ?_)
   refine zn (by rfl) (fun hC=>absurd (eq_of_beq hC) k1) fun hC=>?_
   repeat' (first|(apply f_wo;first|(apply f_mv;first|refine zj1 (v:=.c _) ?_|refine za ?_)|(apply f_as;first|refine zi1 (v:=.c _) ?_|refine za ?_)|(apply f_fa;first|refine n_fa ?_|refine zm1 ?_)|(apply f_ld;first|refine zq1 ?_|refine zx ?_|refine n_ld ?_)|(apply f_ca;first|refine zj4 c1 ?_|refine zk4 c1 ?_)|(apply ze2;first|refine zy ?_|refine za ?_)|refine n_bo ?_|refine za ?_)|(apply f_w;first|refine zv ?_|refine zc ?_)|refine zb fun C=>?_|refine zh ?_|refine zd ?_|refine zf ?_|refine zg ?_)
   refine zn (by rfl) (fun hC=>absurd (eq_of_beq hC) k2) fun hC=>?_
   repeat' (first|(apply f_wo;first|(apply f_mv;first|refine zj1 (v:=.c _) ?_|refine za ?_)|(apply f_as;first|refine zi1 (v:=.c _) ?_|refine za ?_)|(apply f_fa;first|refine n_fa ?_|refine zm1 ?_)|(apply f_ld;first|refine zq1 ?_|refine zx ?_|refine n_ld ?_)|(apply f_ca;first|refine zj4 c1 ?_|refine zk4 c1 ?_)|(apply ze2;first|refine zy ?_|refine za ?_)|refine n_bo ?_|refine za ?_)|(apply f_w;first|refine zv ?_|refine zc ?_)|refine zb fun C=>?_|refine zh ?_|refine zd ?_|refine zf ?_|refine zg ?_)
   refine zu ?_
   exact ret0 rfl (zv8 (zk3 rfl rfl rfl (zq2 _) zn2)) ⟨rfl,rfl⟩
theorem zn16 {bs:List UInt8}{k n:Int}{s:ByteArray}(hi : -9223372036854775808≤n∧n≤9223372036854775807)(hn:bs.length≤1073741000)(hs:s.size≤1048576):Ctr Tryz.prog 31 [.c (.ro bs.length 1 (bytC bs)),.ag [.v (.int .i64 k),.v (.int .i64 n),.v (.string s)]] [] (.c (.ow 5 (bs++putV k n s).length 1 (bytC (bs++putV k n s)))) []:=by
 have c1:=zg5 (bs:=bs) k (by omega)
 have hl:=zr3 k
 have hl2:(bs++putU k).length≤1073741824:=by rw [List.length_append];omega
 have c2:=zw20 (bs:=bs++putU k) (n:=n) hi hl2
 have c3:=zh9 (bs:=bs++putU k) s hl2 hs
 rw [List.append_assoc] at c2 c3
 by_cases k1:k=1
 ·subst k1
  rw [show putV 1 n s=putU 1++putS n from rfl]
  refine zo2 Tryz.func31 rfl rfl ?_
  repeat' (first|(apply f_wo;first|(apply f_mv;first|refine zj1 (v:=.c _) ?_|refine za ?_)|(apply f_as;first|refine zi1 (v:=.c _) ?_|refine za ?_)|(apply f_fa;first|refine n_fa ?_|refine zm1 ?_)|(apply f_ld;first|refine zq1 ?_|refine zx ?_|refine n_ld ?_)|(apply f_ca;first|refine zj4 c1 ?_|refine zk4 c1 ?_|refine zj4 c2 ?_|refine zk4 c2 ?_|refine zj4 c3 ?_|refine zk4 c3 ?_)|(apply ze2;first|refine zy ?_|refine za ?_)|refine n_bo ?_|refine za ?_)|(apply f_w;first|refine zv ?_|refine zc ?_)|refine zb fun C=>?_|refine zh ?_|refine zd ?_|refine zf ?_|refine zg ?_|refine zt rfl ?_|refine zp rfl ?_)
  refine zu ?_
  exact ret0 rfl (zv8 (zk3 rfl rfl rfl (zq2 _) zn2)) ⟨rfl,rfl⟩
 ·by_cases k2:k=2
  ·subst k2
   rw [show putV 2 n s=putU 2++putT s from rfl]
   refine zo2 Tryz.func31 rfl rfl ?_
   repeat' (first|(apply f_wo;first|(apply f_mv;first|refine zj1 (v:=.c _) ?_|refine za ?_)|(apply f_as;first|refine zi1 (v:=.c _) ?_|refine za ?_)|(apply f_fa;first|refine n_fa ?_|refine zm1 ?_)|(apply f_ld;first|refine zq1 ?_|refine zx ?_|refine n_ld ?_)|(apply f_ca;first|refine zj4 c1 ?_|refine zk4 c1 ?_|refine zj4 c2 ?_|refine zk4 c2 ?_|refine zj4 c3 ?_|refine zk4 c3 ?_)|(apply ze2;first|refine zy ?_|refine za ?_)|refine n_bo ?_|refine za ?_)|(apply f_w;first|refine zv ?_|refine zc ?_)|refine zb fun C=>?_|refine zh ?_|refine zd ?_|refine zf ?_|refine zg ?_|refine zt rfl ?_|refine zp rfl ?_)
   refine zu ?_
   exact ret0 rfl (zv8 (zk3 rfl rfl rfl (zq2 _) zn2)) ⟨rfl,rfl⟩
  ·rw [show putV k n s=putU k by unfold putV;rw [if_neg k1,if_neg k2,List.append_nil]]
   refine zo2 Tryz.func31 rfl rfl ?_
   repeat' (first|(apply f_wo;first|(apply f_mv;first|refine zj1 (v:=.c _) ?_|refine za ?_)|(apply f_as;first|refine zi1 (v:=.c _) ?_|refine za ?_)|(apply f_fa;first|refine n_fa ?_|refine zm1 ?_)|(apply f_ld;first|refine zq1 ?_|refine zx ?_|refine n_ld ?_)|(apply f_ca;first|refine zj4 c1 ?_|refine zk4 c1 ?_)|(apply ze2;first|refine zy ?_|refine za ?_)|refine n_bo ?_|refine za ?_)|(apply f_w;first|refine zv ?_|refine zc ?_)|refine zb fun C=>?_|refine zh ?_|refine zd ?_|refine zf ?_|refine zg ?_)
   refine zn (by rfl) (fun hC=>absurd (eq_of_beq hC) k1) fun hC=>?_
   repeat' (first|(apply f_wo;first|(apply f_mv;first|refine zj1 (v:=.c _) ?_|refine za ?_)|(apply f_as;first|refine zi1 (v:=.c _) ?_|refine za ?_)|(apply f_fa;first|refine n_fa ?_|refine zm1 ?_)|(apply f_ld;first|refine zq1 ?_|refine zx ?_|refine n_ld ?_)|(apply f_ca;first|refine zj4 c1 ?_|refine zk4 c1 ?_)|(apply ze2;first|refine zy ?_|refine za ?_)|refine n_bo ?_|refine za ?_)|(apply f_w;first|refine zv ?_|refine zc ?_)|refine zb fun C=>?_|refine zh ?_|refine zd ?_|refine zf ?_|refine zg ?_)
   refine zn (by rfl) (fun hC=>absurd (eq_of_beq hC) k2) fun hC=>?_
   repeat' (first|(apply f_wo;first|(apply f_mv;first|refine zj1 (v:=.c _) ?_|refine za ?_)|(apply f_as;first|refine zi1 (v:=.c _) ?_|refine za ?_)|(apply f_fa;first|refine n_fa ?_|refine zm1 ?_)|(apply f_ld;first|refine zq1 ?_|refine zx ?_|refine n_ld ?_)|(apply f_ca;first|refine zj4 c1 ?_|refine zk4 c1 ?_)|(apply ze2;first|refine zy ?_|refine za ?_)|refine n_bo ?_|refine za ?_)|(apply f_w;first|refine zv ?_|refine zc ?_)|refine zb fun C=>?_|refine zh ?_|refine zd ?_|refine zf ?_|refine zg ?_)
   refine zu ?_
   exact ret0 rfl (zv8 (zk3 rfl rfl rfl (zq2 _) zn2)) ⟨rfl,rfl⟩
end Go.Proofs.YtghljnfbbaklnaaGreat
namespace Go.Proofs.YtghljnfbbaklnaaGreat
open Go.RowKit
set_option maxRecDepth 100000
def litB (c:Nat):Bool:=(decide (97≤c)&&decide (c≤122))||(decide (65≤c)&&decide (c≤90))||(decide (48≤c)&&decide (c≤57))||c==32||c==95||c==45||c==44||c==58
def setAtB (s:ByteArray)(i:Nat):Bool:=litB (bAt s i)&&(i==0||decide (bAt s (i-1)<bAt s i))
def setOkB (s:ByteArray):Bool:=(List.range s.size).all (setAtB s)&&(decide (1≤s.size)&&decide (s.size≤10))
def loopK (k:Int):Bool:=k==6||k==7||k==8
def rexE (k:Int)(s:ByteArray)(l:List E):E:=.agg [.int .i64 k,.str s,.lst 3 208 none 0 l]
def zeroR:E:=rexE 0 ByteArray.empty []
def E.rk:E→Int
 | .agg (.int _ k :: _)=>k
 | _=>0
def E.rs:E→ByteArray
 | .agg (_ :: .str s :: _)=>s
 | _=>ByteArray.empty
def E.rl:E→List E
 | .agg (_ :: _ :: .lst _ _ _ _ l :: _)=>l
 | _=>[]
def headR (k:Int)(s:ByteArray)(l:List E):Bool :=
 if k=1 then s.size==1&&litB (bAt s 0)&&l.length==0
 else if k=3 then setOkB s&&l.length==0
 else if k=2∨k=9∨k=10∨k=11 then s.size==0&&l.length==0
 else if k=4∨k=5 then s.size==0&&(decide (2≤l.length)&&decide (l.length≤8))
 else if k=6∨k=7∨k=8 then s.size==0&&l.length==1&&!(l.any fun x=>loopK x.rk)
 else false
def headI (e:E):Bool:=headR e.rk e.rs e.rl&&!((e.rk==4||e.rk==5)&&e.rl.any fun x=>x.rk==e.rk)
def sumI (g:E→Nat):List E→Nat→Nat
 | [],n=>n
 | x :: r,n=>if 61≤n+g x then 61 else sumI g r (n+g x)
def partsI:Nat→E→Nat
 | 0,_=>61
 | f+1,e=>if headI e then sumI (partsI f) e.rl 1 else 61
def sumS (g:E→Nat):List E→Nat→Nat
 | [],n=>n
 | x :: r,n=>if n≤60 then sumS g r (n+g x) else n
def partsS:Nat→E→Nat
 | 0,_=>61
 | f+1,e=>sumS (partsS f) e.rl 1
def okS:Nat→E→Bool
 | 0,_=>false
 | f+1,e=>(e.rl.all fun x=>okS f x&&!(x.rk==e.rk&&!loopK e.rk))&&headR e.rk e.rs e.rl
def rexOkI (e:E):Bool:=decide (partsI 6 e≤60)
def rexOkS (e:E):Bool:=decide (partsS 6 e≤60)&&okS 6 e
theorem sumI_le (g:E→Nat):∀(l:List E) (n:Nat),n≤61→sumI g l n≤61
 | [],n,h=>h
 | x :: r,n,h=>by
  unfold sumI
  split
  ·omega
  ·exact sumI_le g r _ (by omega)
theorem partsI_le (f:Nat)(e:E):partsI f e≤61:=by
 cases f with
 | zero=>exact Nat.le_refl _
 | succ f=>unfold partsI;split<;>first|exact sumI_le _ _ _ (by omega)|omega
theorem zz9 {g:E→Nat}:∀{l:List E} {n:Nat},sumI g l n≤60→n≤60∧(∀x∈l,g x≤60)
 | [],n,h=>⟨h,fun x hx=>absurd hx List.not_mem_nil⟩
 | x :: r,n,h=>by
  unfold sumI at h
  split at h
  ·omega
  ·rename_i hn
   obtain⟨h1,h2⟩:=zz9 h
   exact⟨by omega,fun y hy=>by rcases List.mem_cons.1 hy with rfl|hy;·omega
                               ·exact h2 y hy⟩
theorem zf18 {g:E→Nat}:∀(l:List E) (n:Nat),n≤sumS g l n
 | [],n=>Nat.le_refl _
 | x :: r,n=>by
  unfold sumS
  split
  ·exact Nat.le_trans (Nat.le_add_right _ _) (zf18 r _)
  ·exact Nat.le_refl _
theorem zc12 {g:E→Nat}:∀{l:List E} {n:Nat},sumS g l n≤60→n≤60∧(∀x∈l,g x≤60)
 | [],n,h=>⟨h,fun x hx=>absurd hx List.not_mem_nil⟩
 | x :: r,n,h=>by
  unfold sumS at h
  split at h
  ·rename_i hn
   have h0:=zf18 r (n+g x) (g:=g)
   obtain⟨h1,h2⟩:=zc12 h
   exact⟨hn,fun y hy=>by rcases List.mem_cons.1 hy with rfl|hy;·omega
                         ·exact h2 y hy⟩
  ·omega
theorem zt19 {g h:E→Nat}:∀{l:List E} (n:Nat),(∀x∈l,g x≤60→h x=g x)→sumI g l n≤60→sumS h l n=sumI g l n
 | [],n,_,_=>rfl
 | x :: r,n,hx,hs=>by
  have h0:=(zz9 hs).1
  have h1:=(zz9 hs).2 x List.mem_cons_self
  unfold sumI at hs ⊢
  unfold sumS
  rw [if_pos h0,hx x List.mem_cons_self h1]
  split at hs
  ·omega
  ·rename_i hn;rw [if_neg hn];exact zt19 _ (fun y hy=>hx y (List.mem_cons_of_mem _ hy)) hs
theorem sum_same' {g h:E→Nat}:∀{l:List E} (n:Nat),(∀x∈l,h x≤60→g x=h x)→sumS h l n≤60→sumI g l n=sumS h l n
 | [],n,_,_=>rfl
 | x :: r,n,hx,hs=>by
  have h0:=(zc12 hs).1
  have h1:=(zc12 hs).2 x List.mem_cons_self
  unfold sumS at hs ⊢
  unfold sumI
  rw [if_pos h0] at hs ⊢
  have h2:=zf18 r (n+h x) (g:=h)
  rw [hx x List.mem_cons_self h1,if_neg (by omega)]
  exact sum_same' _ (fun y hy=>hx y (List.mem_cons_of_mem _ hy)) hs
theorem headI_of {e:E}(h1:headR e.rk e.rs e.rl=true)(h2:(e.rl.all fun x=>!(x.rk==e.rk&&!loopK e.rk))=true):headI e=true:=by
 unfold headI
 rw [h1,Bool.true_and,Bool.not_eq_true',Bool.and_eq_false_iff]
 by_cases hk:(e.rk==4||e.rk==5)=true
 ·right
  rw [Bool.eq_false_iff]
  intro h
  obtain⟨x,hx,hxk⟩:=List.any_eq_true.1 h
  have:=List.all_eq_true.1 h2 x hx
  rw [hxk] at this
  have h3:loopK e.rk=false:=by
   unfold loopK
   rcases Bool.or_eq_true_iff.1 hk with hk|hk<;>rw [eq_of_beq hk]<;>rfl
  rw [h3] at this
  cases this
 ·left;simpa using hk
theorem head_of {e:E}(h:headI e=true):headR e.rk e.rs e.rl=true∧(e.rl.all fun x=>!(x.rk==e.rk&&!loopK e.rk))=true:=by
 unfold headI at h
 rw [Bool.and_eq_true] at h
 refine⟨h.1,List.all_eq_true.2 fun x hx=>?_⟩
 rw [Bool.not_eq_true',Bool.eq_false_iff]
 intro hc
 rw [Bool.and_eq_true,Bool.not_eq_true'] at hc
 have h2:=h.2
 rw [Bool.not_eq_true',Bool.and_eq_false_iff] at h2
 have hk:(e.rl.any fun y=>y.rk==e.rk)=true:=List.any_eq_true.2 ⟨x,hx,hc.1⟩
 rcases h2 with h2|h2
 ·have h1:=h.1
  unfold headR at h1
  by_cases k4:e.rk=4
  ·rw [k4] at h2;cases h2
  by_cases k5:e.rk=5
  ·rw [k5] at h2;cases h2
  have hl:¬e.rl.length=0:=fun h0=>by rw [List.length_eq_zero_iff.1 h0] at hx;exact absurd hx List.not_mem_nil
  have hlk:¬(e.rk=6∨e.rk=7∨e.rk=8):=fun h0=>by
   have:=hc.2
   unfold loopK at this
   rcases h0 with h0|h0|h0<;>rw [h0] at this<;>cases this
  have hl':(e.rl.length==0)=false:=by simpa using hl
  simp only [hl',Bool.and_false,hlk,if_false,k4,k5,or_self] at h1
  split at h1<;>(try cases h1)
  split at h1<;>(try cases h1)
  split at h1<;>cases h1
 ·rw [hk] at h2;cases h2
theorem zu19 (f:Nat):∀e:E,(partsI f e≤60↔partsS f e≤60∧okS f e=true)∧(partsI f e≤60→partsS f e=partsI f e):=by
 induction f with
 | zero=>intro e;simp [partsI,partsS,okS]
 | succ f ih =>
  intro e
  have key:partsI (f+1) e≤60→partsS (f+1) e=partsI (f+1) e∧okS (f+1) e=true:=by
   intro h
   unfold partsI at h ⊢
   split at h
   ·rename_i hh
    rw [if_pos hh]
    have h1:=(zz9 h).2
    refine⟨?_,?_⟩
    ·unfold partsS
     exact zt19 _ (fun x hx hp=>(ih x).2 hp) h
    ·unfold okS
     obtain⟨h3,h4⟩:=head_of hh
     rw [h3,Bool.and_true]
     refine List.all_eq_true.2 fun x hx=>?_
     rw [((ih x).1.1 (h1 x hx)).2,Bool.true_and]
     exact List.all_eq_true.1 h4 x hx
   ·omega
  refine⟨⟨fun h=>⟨by rw [(key h).1];exact h,(key h).2⟩,fun ⟨h1,h2⟩=>?_⟩,fun h=>(key h).1⟩
  unfold okS at h2
  rw [Bool.and_eq_true] at h2
  have hall:=List.all_eq_true.1 h2.1
  have hh:headI e=true:=headI_of h2.2 (List.all_eq_true.2 fun x hx=>(Bool.and_eq_true_iff.1 (hall x hx)).2)
  unfold partsI
  rw [if_pos hh]
  unfold partsS at h1
  have h3:=(zc12 h1).2
  rw [sum_same' (h:=partsS f) _ (fun x hx hp=>?_) h1]
  ·exact h1
  ·exact ((ih x).2 ((ih x).1.2 ⟨hp,(Bool.and_eq_true_iff.1 (hall x hx)).1⟩)).symm
theorem zb21 (e:E):rexOkI e=rexOkS e:=by
 unfold rexOkI rexOkS
 have h:=(zu19 6 e).1
 by_cases h1:partsI 6 e≤60
 ·have:=h.1 h1
  simp [h1,this]
 ·have h2:¬(partsS 6 e≤60∧okS 6 e=true):=fun q=>h1 (h.2 q)
  simp only [h1,decide_false]
  by_cases h3:partsS 6 e≤60
  ·have:okS 6 e=false:=by simpa using fun q=>h2 ⟨h3,q⟩
   simp [this]
  ·simp [h3]
end Go.Proofs.YtghljnfbbaklnaaGreat
