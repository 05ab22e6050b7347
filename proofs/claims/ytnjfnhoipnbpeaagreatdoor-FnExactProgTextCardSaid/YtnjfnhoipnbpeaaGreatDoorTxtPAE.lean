/- Texts of terms: the reference. -/
import Derived.Test.YtnjfnhoipnbpeaaGreatDoorTxtPAD
namespace Go.Proofs.YtnjfnhoipnbpeaaGreatDoor
open Go.RowKit
set_option maxRecDepth 100000
set_option maxHeartbeats 2000000 in
theorem zf8 {l:List E}{nm:ByteArray}(hnm:nm.size≤1048576)(hl:∀e∈l,e.Ty Tryz.prog 45)(hk:∀e∈l,e.enc.length=4)(hlen:l.length+E.szL l≤1048576)(hc:∀x∈l,Ctr Tryz.prog 13 [.ag (acE x)] [] (.c (.v (.string (txE x)))) []):Ctr Tryz.prog 31 [.c (.v (.string nm)),.c (.ro l.length 4 (acL l))] [] (.c (.v (.string (((nm++⟨#[40]⟩)++joC (l.map txE))++⟨#[41]⟩)))) []:=by
 rw [zp11]
 have hll:(l.map xStr).length=l.length:=List.length_map ..
 have h40:((nm++⟨#[40]⟩):ByteArray).size=nm.size+1:=by rw [ByteArray.size_append'];rfl
 refine ze1 Tryz.func31 rfl rfl ?_
 repeat' (first|(apply f_wo;first|(apply f_mv;refine zv (v:=.c _) ?_)|(apply f_as;refine zq (v:=.c _) ?_)|(apply zd2;refine zl3 ?_))|(apply f_w;first|refine zj ?_|refine zb ?_)|refine za fun C=>?_|refine zd ?_|refine ze ?_)
 refine zv1 (fun k:Nat=>⟨tmsF [(1,.c (.ro l.length 4 (acL l))),(5,.c (.v (.string ((nm++⟨#[40]⟩)++joinB ((l.map xStr).take k) ⟨#[44,32]⟩)))),(6,.c (.v (.int .i64 k)))],hpsF [],0,[],28⟩)
  (fun N k=>k+N=l.length) l.length 0 (by omega) ?_ ?_
 ·rw [List.take_zero,zt5,ByteArray.append_empty]
  (refine zl1 _ _ rfl rfl ?_ ?_<;>(repeat' (first|exact TmOk.nil|exact RwOk.nil|refine TmOk.cons ?_ ?_|refine RwOk.cons ?_ ?_|rfl|(refine rnV_id' rfl ?_;exact byc)|(refine zp1 ?_;first|rfl|omega|(rw [zw (by omega) (by omega)];omega))|(refine zb1 rfl ?_;exact byc)|exact zc2 rfl rfl|(refine zq1 (by rfl) (by rfl) ?_ ?_<;>exact byc)|(refine rw_rn' rfl rfl ?_;simp;done))))
 rintro N k hN
 try dsimp only
 generalize nm++⟨#[40]⟩=M at h40 ⊢
 have hj:=za10 hl k
 repeat' (first|(apply f_wo;first|(apply f_mv;refine zv (v:=.c _) ?_)|(apply f_bi;refine zy1 ?_)|(apply zg3;refine zs1 ?_))|(apply f_w;first|refine zj ?_|refine zb ?_)|refine za fun C=>?_|refine zd ?_)
 refine zi (by rfl) (fun hk1=>?_) fun hk1=>?_
 ·have hk':k<l.length:=by simpa using hk1
  obtain⟨x,hx⟩:∃x,l[k]? = some x:=⟨_,List.getElem?_eq_getElem hk'⟩
  have hxm:=List.mem_of_getElem? hx
  have hxt:=hl x hxm
  have c3:=hc x hxm
  have hxz:=E.szL_mem hxm
  have hts:=zl4 hxt
  have hxs:(l.map xStr)[k]? = some (xStr x):=by rw [List.getElem?_map,hx];rfl
  have e:=zv8 hxs ⟨#[44,32]⟩
  have hst:strB (xStr x)=txE x:=rfl
  rw [hst] at e
  have h2:(⟨#[44,32]⟩:ByteArray).size=2:=rfl
  generalize txE x=T at c3 hts e
  obtain⟨y0,y1,y2,yA,yc,yl,rfl,-⟩:=zh1 hxt
  by_cases hk0:k=0
  ·subst hk0
   rw [if_pos rfl] at e
   rw [List.take_zero,zt5,ByteArray.append_empty] at *
   repeat' (first|(apply f_wo;first|(apply f_mv;refine zv (v:=.c _) ?_)|(apply f_as;refine zq (v:=.c _) ?_)|(apply f_ld;refine zq2 ?_)|(apply f_ca;refine zk1 c3 ?_)|(apply f_ia;refine n_ix ?_)|(apply zn3;refine za2 ?_)|(apply zd2;first|refine zj1 ?_|refine zl3 ?_))|(apply f_w;first|refine zj ?_|refine zb ?_)|refine za fun C=>?_|refine zd ?_|refine ze ?_|refine zg ?_|(refine zi (by rfl) ?_ ?_<;>intro hC<;>(try cases hC)))
   all_goals first
    | (exfalso;simp at hC;done)
    | (refine⟨N-1,1,by omega,by omega,?_⟩
       rw [show (1:Nat)=0+1 from rfl,e,ByteArray.empty_append]
       (refine zl1 _ _ rfl rfl ?_ ?_<;>(repeat' (first|exact TmOk.nil|exact RwOk.nil|refine TmOk.cons ?_ ?_|refine RwOk.cons ?_ ?_|rfl|(refine rnV_id' rfl ?_;exact byc)|(refine zp1 ?_;first|rfl|omega|(rw [zw (by omega) (by omega)];omega))|(refine zb1 rfl ?_;exact byc)|exact zc2 rfl rfl|(refine zq1 (by rfl) (by rfl) ?_ ?_<;>exact byc)|(refine rw_rn' rfl rfl ?_;simp;done)))))
  ·rw [if_neg hk0] at e
   generalize joinB ((l.map xStr).take k) ⟨#[44,32]⟩=J at e hj ⊢
   have hMJ:(M++J).size=M.size+J.size:=ByteArray.size_append' _ _
   have e3:M++((J++⟨#[44,32]⟩)++T)=((M++J)++⟨#[44,32]⟩)++T:=by simp only [ByteArray.append_assoc]
   repeat' (first|(apply f_wo;first|(apply f_mv;refine zv (v:=.c _) ?_)|(apply f_as;refine zq (v:=.c _) ?_)|(apply f_ld;refine zq2 ?_)|(apply f_ca;refine zk1 c3 ?_)|(apply f_ia;refine n_ix ?_)|(apply zn3;refine za2 ?_)|(apply zd2;first|refine zj1 ?_|refine zl3 ?_))|(apply f_w;first|refine zj ?_|refine zb ?_)|refine za fun C=>?_|refine zd ?_|refine ze ?_|refine zg ?_|(refine zi (by rfl) ?_ ?_<;>intro hC<;>(try cases hC)))
   all_goals first
    | (exfalso;simp only [decide_eq_false_iff_not] at hC;omega)
    | (refine⟨N-1,k+1,by omega,by omega,?_⟩
       rw [e,e3]
       (refine zl1 _ _ rfl rfl ?_ ?_<;>(repeat' (first|exact TmOk.nil|exact RwOk.nil|refine TmOk.cons ?_ ?_|refine RwOk.cons ?_ ?_|rfl|(refine rnV_id' rfl ?_;exact byc)|(refine zp1 ?_;first|rfl|omega|(rw [zw (by omega) (by omega)];omega))|(refine zb1 rfl ?_;exact byc)|exact zc2 rfl rfl|(refine zq1 (by rfl) (by rfl) ?_ ?_<;>exact byc)|(refine rw_rn' rfl rfl ?_;simp;done)))))
 ·have hk':¬k<l.length:=by simpa using hk1
  rw [List.take_of_length_le (by omega)] at hj ⊢
  have hMJ:(M++joinB (l.map xStr) ⟨#[44,32]⟩).size=M.size+(joinB (l.map xStr) ⟨#[44,32]⟩).size:=ByteArray.size_append' _ _
  repeat' (first|(apply f_wo;first|(apply f_mv;refine zv (v:=.c _) ?_)|(apply f_as;refine zq (v:=.c _) ?_)|(apply zd2;refine zl3 ?_))|(apply f_w;first|refine zj ?_|refine zb ?_)|refine za fun C=>?_|refine zd ?_|refine zu ?_)
  refine zh ?_;refine ret0 rfl zg1 ⟨?_,rfl⟩;rfl
theorem zi14 (a b:List UInt8):(⟨a.toArray⟩++⟨b.toArray⟩:ByteArray)=⟨(a++b).toArray⟩:=(zs5 a b).symm
set_option maxHeartbeats 8000000 in
theorem zh20:∀(n:Nat) (e:E),e.Ty Tryz.prog 45→e.sz<n→n≤1048577→okX e=true→Ctr Tryz.prog 13 [.ag (acE e)] [] (.c (.v (.string (txE e)))) []
 | 0,_,_,h,_,_=>absurd h (Nat.not_lt_zero _)
 | n+1,e,he,hsz,hn,hok=>by
  obtain⟨k0,n0,s0,xA,xc,l,rfl,-,-,-,⟨hl,hk⟩,-⟩:=zh1 he
  simp only [E.sz,E.szL] at hsz
  have ek:okX (.agg [.int .i64 k0,.int .i64 n0,.str s0,.lst 4 45 xA xc l])=(l.all okX&&headB k0 n0 s0 l.length):=zz5 zr6 _
  rw [ek,Bool.and_eq_true,List.all_eq_true] at hok
  obtain⟨hall,hh⟩:=hok
  have hkid:∀x∈l,Ctr Tryz.prog 13 [.ag (acE x)] [] (.c (.v (.string (txE x)))) []:=fun x hx=>by
   have:=E.szL_mem hx
   have h0:0<l.length:=List.length_pos_of_mem hx
   exact zh20 n x (hl x hx) (by omega) (by omega) (hall x hx)
  have hj:=zh16 hl
  rw [zf14]
  have key:∀x y,l=[x,y]→(k0=6∨k0=18)→Ctr Tryz.prog 13 [.ag (acE (.agg [.int .i64 k0,.int .i64 n0,.str s0,.lst 4 45 xA xc l]))] [] (.c (.v (.string (tNode k0 n0 s0 (l.map txE))))) []:=fun x y hxy hk0=>by
   subst hxy
   have cx:=hkid x (by simp)
   have cy:=hkid y (by simp)
   have tx:=hl x (by simp)
   have ty:=hl y (by simp)
   have zx:=zl4 tx
   have zy:=zl4 ty
   have hx0:[x,y][0]? = some x:=rfl
   have hy0:[x,y][1]? = some y:=rfl
   have e2:[x,y].map txE=[txE x,txE y]:=rfl
   simp only [E.szL,List.length_cons,List.length_nil] at hsz
   rw [e2]
   clear hj hkid hall hh
   generalize txE x=X at cx zx ⊢
   generalize txE y=Y at cy zy ⊢
   obtain⟨x0,x1,x2,xA',xc',xl,rfl,-⟩:=zh1 tx
   obtain⟨y0,y1,y2,yA,yc,yl,rfl,-⟩:=zh1 ty
   rcases hk0 with rfl|rfl
   ·refine ze1 Tryz.func13 rfl rfl ?_
    repeat' (first|(apply f_wo;first|(apply f_as;refine zq (v:=.c _) ?_)|(apply f_fa;refine n_fa ?_)|(apply f_ld;refine zn1 ?_)|(apply zr1;refine zm ?_)|refine n_bo ?_)|(apply f_w;first|refine zj ?_|refine zb ?_)|(apply d_wo;first|(apply d_as;refine ze2 ?_)|(apply d_fa;refine o_fa ?_)|(apply d_ld;first|refine zp3 ?_|refine zs10 ?_)|(apply d_ca;first|refine zu3 cx ?_|refine zu3 cy ?_)|(apply d_ia;refine o_ix ?_)|(apply d_bb;refine zx5 ?_))|(apply d_w;first|refine zj ?_|refine zb ?_)|refine za fun C=>?_|refine zn (by kernel_rfl) (by kernel_rfl) fun C=>?_|refine zd ?_|refine ze ?_|refine za1 rfl ?_|refine zf1 rfl ?_)
    refine zh ?_;refine ret0 rfl zg1 ⟨?_,rfl⟩;rfl
   ·refine ze1 Tryz.func13 rfl rfl ?_
    repeat' (first|(apply f_wo;first|(apply f_as;refine zq (v:=.c _) ?_)|(apply f_fa;refine n_fa ?_)|(apply f_ld;refine zn1 ?_)|(apply zr1;refine zm ?_)|refine n_bo ?_)|(apply f_w;first|refine zj ?_|refine zb ?_)|(apply d_wo;first|(apply d_as;refine ze2 ?_)|(apply d_fa;refine o_fa ?_)|(apply d_ld;first|refine zp3 ?_|refine zs10 ?_)|(apply d_ca;first|refine zu3 cx ?_|refine zu3 cy ?_)|(apply d_ia;refine o_ix ?_)|(apply d_bb;refine zx5 ?_))|(apply d_w;first|refine zj ?_|refine zb ?_)|refine za fun C=>?_|refine zn (by kernel_rfl) (by kernel_rfl) fun C=>?_|refine zd ?_|refine ze ?_|refine za1 rfl ?_|refine zf1 rfl ?_)
    refine zh ?_;refine ret0 rfl zg1 ⟨?_,rfl⟩;rfl
  have key1:∀x,l=[x]→(k0=4∨k0=5∨k0=7∨k0=8∨k0=9∨k0=10)→Ctr Tryz.prog 13 [.ag (acE (.agg [.int .i64 k0,.int .i64 n0,.str s0,.lst 4 45 xA xc l]))] [] (.c (.v (.string (tNode k0 n0 s0 (l.map txE))))) []:=fun x hxy hk0=>by
   subst hxy
   have cx:=hkid x (by simp)
   have tx:=hl x (by simp)
   have zx:=zl4 tx
   have hx0:[x][0]? = some x:=rfl
   have e2:[x].map txE=[txE x]:=rfl
   simp only [E.szL,List.length_cons,List.length_nil] at hsz
   rw [e2]
   clear hj hkid hall hh key
   generalize txE x=X at cx zx ⊢
   have e1:=joC_one X
   obtain⟨x0,x1,x2,xA',xc',xl,rfl,-⟩:=zh1 tx
   rcases hk0 with rfl|rfl|rfl|rfl|rfl|rfl
   all_goals
    refine ze1 Tryz.func13 rfl rfl ?_
    repeat' (first|(apply f_wo;first|(apply f_as;refine zq (v:=.c _) ?_)|(apply f_fa;refine n_fa ?_)|(apply f_ld;first|refine zn1 ?_|refine zq2 ?_)|(apply f_ca;refine zk1 cx ?_)|(apply f_ia;refine n_ix ?_)|(apply zr1;refine zm ?_)|(apply zd2;refine zl3 ?_)|refine n_bo ?_)|(apply f_w;first|refine zj ?_|refine zb ?_)|(apply d_wo;first|(apply d_as;refine ze2 ?_)|(apply d_fa;refine o_fa ?_)|(apply d_ld;first|refine zp3 ?_|refine zs10 ?_)|(apply d_ca;refine zu3 cx ?_)|(apply d_ia;refine o_ix ?_)|(apply d_bb;refine zx5 ?_))|(apply d_w;first|refine zj ?_|refine zb ?_)|refine za fun C=>?_|refine zn (by kernel_rfl) (by kernel_rfl) fun C=>?_|refine zd ?_|refine ze ?_|refine za1 rfl ?_|refine zf1 rfl ?_)
    refine zh ?_;refine ret0 rfl zg1 ⟨?_,rfl⟩
    conv=>lhs;rw [←e1]
    try rfl
  rcases zi16 hh with ⟨rfl,h0,h1⟩|rfl|rfl|⟨rfl|rfl,x,hxy⟩|⟨rfl|rfl|rfl|rfl|rfl,x,hxy⟩|⟨rfl,x,y,hxy⟩|⟨rfl,x,hxy⟩|⟨rfl,x,y,hxy⟩|rfl|rfl|rfl|rfl|rfl
  all_goals first
   | (exact key x y hxy (by omega))
   | (exact key1 x hxy (by omega))
   | skip
  ·have cd:=l2Num_n n0.natAbs n0 (Nat.le_refl _) (by omega) (by omega)
   refine ze1 Tryz.func13 rfl rfl ?_
   repeat' (first|(apply f_wo;first|(apply f_as;refine zq (v:=.c _) ?_)|(apply f_fa;refine n_fa ?_)|(apply f_ld;refine zn1 ?_)|(apply f_ca;refine zk1 cd ?_)|(apply zr1;refine zm ?_)|refine n_bo ?_)|(apply f_w;first|refine zj ?_|refine zb ?_)|refine za fun C=>?_|refine zd ?_|refine ze ?_|refine za1 rfl ?_)
   refine zh ?_;refine ret0 rfl zg1 ⟨?_,rfl⟩;rfl
  all_goals
   clear key key1
   have q1:=zf8 (nm:=s0) (by omega) hl hk (by omega) hkid
   have q2:=zf8 (nm:=⟨#[108,101,110,103,116,104]⟩) (by decide) hl hk (by omega) hkid
   have q3:=zf8 (nm:=⟨#[115,117,98,115,116,114]⟩) (by decide) hl hk (by omega) hkid
   have q4:=zf8 (nm:=⟨#[105,110,100,101,120]⟩) (by decide) hl hk (by omega) hkid
   have q5:=zf8 (nm:=⟨#[117,112,112,101,114]⟩) (by decide) hl hk (by omega) hkid
   rw [show (⟨#[108,101,110,103,116,104]⟩++⟨#[40]⟩:ByteArray)=⟨#[108,101,110,103,116,104,40]⟩ from zi14 [108,101,110,103,116,104] [40]] at q2
   rw [show (⟨#[115,117,98,115,116,114]⟩++⟨#[40]⟩:ByteArray)=⟨#[115,117,98,115,116,114,40]⟩ from zi14 [115,117,98,115,116,114] [40]] at q3
   rw [show (⟨#[105,110,100,101,120]⟩++⟨#[40]⟩:ByteArray)=⟨#[105,110,100,101,120,40]⟩ from zi14 [105,110,100,101,120] [40]] at q4
   rw [show (⟨#[117,112,112,101,114]⟩++⟨#[40]⟩:ByteArray)=⟨#[117,112,112,101,114,40]⟩ from zi14 [117,112,112,101,114] [40]] at q5
   clear hkid hall hh
   refine ze1 Tryz.func13 rfl rfl ?_
   repeat' (first|(apply f_wo;first|(apply f_as;refine zq (v:=.c _) ?_)|(apply f_fa;refine n_fa ?_)|(apply f_ld;refine zn1 ?_)|(apply f_ca;first|refine zk1 q1 ?_|refine zk1 q2 ?_|refine zk1 q3 ?_|refine zk1 q4 ?_|refine zk1 q5 ?_)|(apply zr1;refine zm ?_)|(apply zd2;refine zl3 ?_)|refine n_bo ?_)|(apply f_w;first|refine zj ?_|refine zb ?_)|refine za fun C=>?_|refine zd ?_|refine ze ?_|refine zg ?_|refine za1 rfl ?_|refine zf1 rfl ?_)
   refine zh ?_;refine ret0 rfl zg1 ⟨?_,rfl⟩;rfl
def sNode (k:Int)(s t:ByteArray)(ts:List ByteArray)(a b:ByteArray)(nb:Nat):ByteArray :=
 if k=1 then ((⟨#[112,114,105,110,116,32]⟩:ByteArray)++joC ts)++(⟨#[59]⟩:ByteArray)
 else if k=2 then ((s++(⟨#[32,61,32]⟩:ByteArray))++atB ts 0)++(⟨#[59]⟩:ByteArray)
 else if k=3 then ((((s++(⟨#[91]⟩:ByteArray))++atB ts 0)++(⟨#[93,32,61,32]⟩:ByteArray))++atB ts 1)++(⟨#[59]⟩:ByteArray)
 else if k=4 then ((((⟨#[36]⟩:ByteArray)++atB ts 0)++(⟨#[32,61,32]⟩:ByteArray))++atB ts 1)++(⟨#[59]⟩:ByteArray)
 else if k=5 then if nb=0 then (((⟨#[105,102,32,40]⟩:ByteArray)++atB ts 0)++(⟨#[41,32]⟩:ByteArray))++a else ((((⟨#[105,102,32,40]⟩:ByteArray)++atB ts 0)++(⟨#[41,32]⟩:ByteArray))++a)++((⟨#[32,101,108,115,101,32]⟩:ByteArray)++b)
 else if k=6 then (((⟨#[119,104,105,108,101,32,40]⟩:ByteArray)++atB ts 0)++(⟨#[41,32]⟩:ByteArray))++a
 else if k=7 then (((((⟨#[102,111,114,32,40]⟩:ByteArray)++s)++(⟨#[32,105,110,32]⟩:ByteArray))++t)++(⟨#[41,32]⟩:ByteArray))++a
 else if k=8 then (⟨#[110,101,120,116,59]⟩:ByteArray)
 else if k=9 then ((⟨#[101,120,105,116,32]⟩:ByteArray)++atB ts 0)++(⟨#[59]⟩:ByteArray)
 else if k=10 then ((⟨#[114,101,116,117,114,110,32]⟩:ByteArray)++atB ts 0)++(⟨#[59]⟩:ByteArray)
 else if k=11 then ((((⟨#[100,101,108,101,116,101,32]⟩:ByteArray)++s)++(⟨#[91]⟩:ByteArray))++atB ts 0)++(⟨#[93,59]⟩:ByteArray)
 else atB ts 0++(⟨#[59]⟩:ByteArray)
def blA (ts:List ByteArray):ByteArray:=ts.foldl (fun a t=>a++(t++⟨#[32]⟩)) (⟨#[123,32]⟩:ByteArray)
def blT (ts:List ByteArray):ByteArray:=blA ts++⟨#[125]⟩
theorem zi20 (ts:List ByteArray)(t:ByteArray):blA (ts++[t])=blA ts++(t++⟨#[32]⟩):=by
 unfold blA
 rw [List.foldl_append];rfl
theorem zj14 (ts:List ByteArray):(blA ts).size≤2+smB ts:=by
 have key:∀(r:List ByteArray) (a:ByteArray),(r.foldl (fun a t=>a++(t++⟨#[32]⟩)) a).size≤a.size+smB r:=fun r=>by
  induction r with
  | nil=>intro a;exact Nat.le_refl _
  | cons t r ih =>
   intro a
   have h:=ih (a++(t++⟨#[32]⟩))
   rw [ByteArray.size_append',ByteArray.size_append'] at h
   have h1:(⟨#[32]⟩:ByteArray).size=1:=rfl
   simp only [List.foldl_cons,smB]
   omega
 have h:=key ts ⟨#[123,32]⟩
 have h2:(⟨#[123,32]⟩:ByteArray).size=2:=rfl
 unfold blA
 omega
theorem zi4 (ts:List ByteArray):(blT ts).size≤3+smB ts:=by
 have:=zj14 ts
 unfold blT
 rw [ByteArray.size_append']
 have h2:(⟨#[125]⟩:ByteArray).size=1:=rfl
 omega
theorem zl22 (k:Int)(s t:ByteArray)(ts:List ByteArray)(a b:ByteArray)(nb:Nat):(sNode k s t ts a b nb).size≤20+s.size+t.size+smB ts+a.size+b.size:=by
 have h1:=zc6 ts
 have h2:=at_two ts
 have hm:∀a:Array UInt8,(ByteArray.mk a).size=a.size:=fun _=>rfl
 unfold sNode
 repeat' refine zg14 ?_ ?_
 all_goals
  try simp only [ByteArray.size_append',ByteArray.size_mk',List.size_toArray,List.length_cons,List.length_nil]
  omega
def stF:Nat→E→ByteArray
 | 0,_=>ByteArray.empty
 | f+1,e=>match e with
  | .agg [.int _ k,.str s,.str t,.lst _ _ _ _ xs,.lst _ _ _ _ la,.lst _ _ _ _ lb]=>sNode k s t (xs.map txE) (blT (la.map (stF f))) (blT (lb.map (stF f))) lb.length
  | _=>ByteArray.empty
def stE (e:E):ByteArray:=stF (e.sz+1) e
theorem stF_eq:∀(n f:Nat) (e:E),e.sz<n→e.sz<f→stF f e=stE e
 | 0,_,_,h,_=>absurd h (Nat.not_lt_zero _)
 | n+1,0,_,_,h=>absurd h (Nat.not_lt_zero _)
 | n+1,f+1,e,h1,h2=>by
  have key:∀x∈kidS e,stF f x=stF e.sz x:=fun x hx=>by
   have hs:=zz8 e x hx
   rw [stF_eq n f x (by omega) (by omega),stF_eq n e.sz x (by omega) hs]
  unfold stE
  unfold stF
  split
  ·rename_i k s t c1 T1 A1 m1 xs c2 T2 A2 m2 la c3 T3 A3 m3 lb
   rw [List.map_congr_left fun x hx=>key x (List.mem_append_left _ hx),List.map_congr_left fun x hx=>key x (List.mem_append_right _ hx)]
  ·rfl
theorem zk14 (i:IntKind)(k:Int)(s t:ByteArray)(w1 w2 w3:Nat)(T1 T2 T3:TypeId)(A1 A2 A3:Option Addr)(c1 c2 c3:Nat)(xs la lb:List E):stE (.agg [.int i k,.str s,.str t,.lst w1 T1 A1 c1 xs,.lst w2 T2 A2 c2 la,.lst w3 T3 A3 c3 lb])=sNode k s t (xs.map txE) (blT (la.map stE)) (blT (lb.map stE)) lb.length:=by
 have key:∀x∈kidS (.agg [.int i k,.str s,.str t,.lst w1 T1 A1 c1 xs,.lst w2 T2 A2 c2 la,.lst w3 T3 A3 c3 lb]),stF (E.sz (.agg [.int i k,.str s,.str t,.lst w1 T1 A1 c1 xs,.lst w2 T2 A2 c2 la,.lst w3 T3 A3 c3 lb])) x=stE x:=fun x hx=>stF_eq (x.sz+1) _ x (by omega) (zz8 _ x hx)
 show sNode k s t (xs.map txE) (blT (la.map (stF (E.sz (.agg [.int i k,.str s,.str t,.lst w1 T1 A1 c1 xs,.lst w2 T2 A2 c2 la,.lst w3 T3 A3 c3 lb]))))) (blT (lb.map (stF (E.sz (.agg [.int i k,.str s,.str t,.lst w1 T1 A1 c1 xs,.lst w2 T2 A2 c2 la,.lst w3 T3 A3 c3 lb]))))) lb.length=_
 rw [List.map_congr_left fun x hx=>key x (List.mem_append_left _ hx),List.map_congr_left fun x hx=>key x (List.mem_append_right _ hx)]
theorem zl14:∀(n:Nat) (e:E),e.Ty Tryz.prog 71→e.sz<n→(stE e).size+2≤40*(1+e.sz)
 | 0,_,_,h=>absurd h (Nat.not_lt_zero _)
 | n+1,e,he,h=>by
  obtain⟨k,s,t,xA,xc,xs,aA,ac,la,bA,bc,lb,rfl,-,-,-,⟨hx,kx⟩,⟨ha,ka⟩,⟨hb,kb⟩,-⟩:=zt1 he
  have h1:=zl22 k s t (xs.map txE) (blT (la.map stE)) (blT (lb.map stE)) lb.length
  have h2:=zi4 (la.map stE)
  have h3:=zi4 (lb.map stE)
  have h4:=sum_tx hx
  rw [zk14]
  simp only [E.sz,E.szL] at h ⊢
  have key:∀r:List E,(∀x∈r,x.Ty Tryz.prog 71)→r.length+E.szL r≤n→smB (r.map stE)≤40*(r.length+E.szL r):=fun r=>by
   induction r with
   | nil=>intros;exact Nat.zero_le _
   | cons x r ih =>
    intro a b
    simp only [E.szL,List.length_cons] at b
    have i1:=ih (fun y hy=>a y (List.mem_cons_of_mem _ hy)) (by omega)
    have i2:=zl14 n x (a x (List.mem_cons_self ..)) (by omega)
    simp only [List.map_cons,smB,List.length_cons,E.szL]
    omega
  have h5:=key la ha (by omega)
  have h6:=key lb hb (by omega)
  omega
theorem stE_le {e:E}(he:e.Ty Tryz.prog 71):(stE e).size≤40*(1+e.sz):=by have:=zl14 (e.sz+1) e he (by omega);omega
theorem zu5:∀{l:List E},(∀x∈l,x.Ty Tryz.prog 71)→smB (l.map stE)≤40*(l.length+E.szL l)
 | [],_=>Nat.zero_le _
 | x :: r,h=>by
  have h1:=zu5 (l:=r) fun y hy=>h y (List.mem_cons_of_mem _ hy)
  have h2:=zl14 (x.sz+1) x (h x (List.mem_cons_self ..)) (by omega)
  simp only [List.map_cons,smB,List.length_cons,E.szL]
  omega
theorem zs18 {b:Nat}{c:E→Nat}:∀(l:List E) (n:Nat),gpS b c l n≤b→∀x∈l,c x≤b
 | [],_,_,x,hx=>by cases hx
 | y :: r,n,h,x,hx=>by
  unfold gpS at h
  split at h
  ·have h1:=zp19 (b:=b) (c:=c) r (n+c y)
   rcases List.mem_cons.1 hx with rfl|hx
   ·omega
   ·exact zs18 r _ h x hx
  ·omega
theorem zj20 {b:Nat}{c d:E→Nat}:∀(l:List E) (n:Nat),(∀x∈l,c x=d x)→gpS b c l n=gpS b d l n
 | [],_,_=>rfl
 | y :: r,n,h=>by
  unfold gpS
  rw [h y (List.mem_cons_self ..),zj20 r _ fun x hx=>h x (List.mem_cons_of_mem _ hx)]
theorem cntS_up {b:Nat}{kd:E→List E}:∀(f:Nat) (e:E),cntS b kd f e≤b→cntS b kd (f+1) e=cntS b kd f e
 | 0,e,h=>absurd h (by show ¬b+1≤b;omega)
 | f+1,e,h=>by
  have h1:gpS b (cntS b kd f) (kd e) 1≤b:=h
  show gpS b (cntS b kd (f+1)) (kd e) 1=gpS b (cntS b kd f) (kd e) 1
  exact zj20 _ _ fun x hx=>cntS_up f x (zs18 _ _ h1 x hx)
theorem zt6 {e x:E}(h:stmtB e=true)(hx:x∈kidS e):stmtB x=true:=by
 unfold stmtB at h ⊢
 rw [Bool.and_eq_true,decide_eq_true_iff] at h ⊢
 obtain⟨h1,h2⟩:=h
 have h3:gpS 60 (cntS 60 kidS 4) (kidS e) 1≤60:=h1
 have h4:=zs18 _ _ h3 x hx
 refine⟨?_,?_⟩
 ·show cntS 60 kidS 5 x≤60
  rw [cntS_up 4 x h4];exact h4
 ·unfold okY at h2
  rw [zz5 zz8,Bool.and_eq_true,List.all_eq_true] at h2
  exact h2.1 x hx
theorem zy12 {e:E}(h:stmtB e=true):sheadE e=true:=by
 unfold stmtB okY at h
 rw [zz5 zz8,Bool.and_eq_true,Bool.and_eq_true] at h
 exact h.2.2
theorem zm14 {e:E}(h:exprB e=true):okX e=true:=by
 unfold exprB at h
 rw [Bool.and_eq_true] at h
 exact h.2
theorem one_of' {l:List E}{k:Int}(hk:k=1)(h:((l.length:Int)==k)=true):∃x,l=[x]:=by
 subst hk
 rw [beq_iff_eq] at h
 match l,h with
 | [x],_=>exact⟨x,rfl⟩
 | [],h=>simp at h
 | _ :: _ :: r,h=>simp only [List.length_cons] at h;omega
theorem two_of' {l:List E}(h:((l.length:Int)==2)=true):∃x y,l=[x,y]:=by
 rw [beq_iff_eq] at h
 match l,h with
 | [x,y],_=>exact⟨x,y,rfl⟩
 | [],h=>simp at h
 | [x],h=>simp at h
 | _ :: _ :: _ :: r,h=>simp only [List.length_cons] at h;omega
theorem zh7 {l:List E}{na nb j:Int}{a b:Bool}(h:shp (l.length:Int) na nb j a b=true):((l.length:Int)==j)=true:=by
 unfold shp at h
 rw [Bool.and_eq_true] at h
 exact h.1
theorem zz12 {k:Int}{s t:ByteArray}{xs:List E}{na nb:Nat}(h:sheadB k s t xs na nb=true):(∀x∈xs,okX x=true)∧(k=1∨((k=2∨k=11)∧∃x,xs=[x])∨((k=3∨k=4)∧∃x y,xs=[x,y])∨((k=5∨k=6)∧∃x,xs=[x])∨k=7∨k=8∨((k=9∨k=10)∧∃x,xs=[x])∨(k=12∧∃x,xs=[x])):=by
 unfold sheadB at h
 rw [Bool.and_eq_true,List.all_eq_true] at h
 obtain⟨h1,h2⟩:=h
 refine⟨fun x hx=>zm14 (h1 x hx),?_⟩
 unfold shapeB at h2
 rw [Bool.and_eq_true] at h2
 replace h2:=h2.2
 by_cases k1:k=1
 ·exact .inl k1
 rw [if_neg k1] at h2
 by_cases k2:k=2∨k=11
 ·rw [if_pos k2,Bool.and_eq_true] at h2
  exact .inr (.inl ⟨k2,one_of' rfl (zh7 h2.2)⟩)
 rw [if_neg k2] at h2
 by_cases k3:k=3
 ·rw [if_pos k3,Bool.and_eq_true] at h2
  exact .inr (.inr (.inl ⟨.inl k3,two_of' (zh7 h2.2)⟩))
 rw [if_neg k3] at h2
 by_cases k4:k=4
 ·rw [if_pos k4,Bool.and_eq_true] at h2
  exact .inr (.inr (.inl ⟨.inr k4,two_of' (zh7 h2.2)⟩))
 rw [if_neg k4] at h2
 by_cases k5:k=5
 ·rw [if_pos k5,Bool.and_eq_true] at h2
  exact .inr (.inr (.inr (.inl ⟨.inl k5,one_of' rfl (zh7 h2.2)⟩)))
 rw [if_neg k5] at h2
 by_cases k6:k=6
 ·rw [if_pos k6,Bool.and_eq_true] at h2
  exact .inr (.inr (.inr (.inl ⟨.inr k6,one_of' rfl (zh7 h2.2)⟩)))
 rw [if_neg k6] at h2
 by_cases k7:k=7
 ·exact .inr (.inr (.inr (.inr (.inl k7))))
 by_cases k8:k=8
 ·exact .inr (.inr (.inr (.inr (.inr (.inl k8)))))
 rw [if_neg k7,if_neg k8] at h2
 by_cases k9:k=9∨k=10
 ·rw [if_pos k9,Bool.and_eq_true] at h2
  exact .inr (.inr (.inr (.inr (.inr (.inr (.inl ⟨k9,one_of' rfl (zh7 h2.2)⟩))))))
 rw [if_neg k9] at h2
 by_cases k12:k=12
 ·rw [if_pos k12,Bool.and_eq_true,Bool.and_eq_true] at h2
  exact .inr (.inr (.inr (.inr (.inr (.inr (.inr ⟨k12,one_of' rfl (zh7 h2.2.1)⟩))))))
 rw [if_neg k12] at h2
 cases h2
end Go.Proofs.YtnjfnhoipnbpeaaGreatDoor
