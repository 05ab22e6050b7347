/- T -/
import Derived.Test.YtomolhbkdhjofaaGreatDoorExRU
set_option maxHeartbeats 0
set_option maxRecDepth 100000
namespace Go.Proofs.YtomolhbkdhjofaaGreatDoor
open Go.RowKit Go.Proofs.Tryz
theorem aW {e:E}(h:e.Ty prog 26):∃(x0:Int) (x1:Int) (x2:ByteArray) (x3A:Option Addr) (x3c:Nat) (x3l:List E),e=(E.agg [.int .i64 x0,.int .i64 x1,.str x2,.lst 4 26 x3A x3c x3l])∧((Lit.int .i64 x0).wf=true)∧((Lit.int .i64 x1).wf=true)∧(x2.size≤9223372036854775807)∧((∀y∈x3l,y.Ty prog 26)∧(∀y∈x3l,y.enc.length=4))∧True:=by
 obtain⟨fs,rfl,q0⟩:=h.agg_ underlying26
 change E.TyF _ _ [3,3,9,24] at q0
 obtain⟨e0,r0,rfl,h0,q1⟩:=q0.cons_
 obtain⟨e1,r1,rfl,h1,q2⟩:=q1.cons_
 obtain⟨e2,r2,rfl,h2,q3⟩:=q2.cons_
 obtain⟨e3,r3,rfl,h3,q4⟩:=q3.cons_
 obtain rfl:=q4.nil_
 obtain⟨x0,rfl,gx0⟩:=h0.int_ underlying3
 obtain⟨x1,rfl,gx1⟩:=h1.int_ underlying3
 obtain⟨x2,rfl,gx2⟩:=h2.str_ underlying9
 obtain⟨x3A,x3c,x3l,rfl,gx3,gx3'⟩:=h3.lst_ underlying24 (k:=4) krq
 exact⟨x0,x1,x2,x3A,x3c,x3l,rfl,gx0,gx1,gx2,⟨gx3,gx3'⟩,trivial⟩
def uy (ns:List ByteArray):List E:=ns.map fun n=>.str n
def kwL:List E:=uy [⟨#[98,101,103,105,110]⟩,⟨#[101,110,100]⟩,⟨#[102,117,110,99]⟩,⟨#[112,114,105,110,116]⟩,⟨#[105,102]⟩,⟨#[101,108,115,101]⟩,⟨#[119,104,105,108,101]⟩,⟨#[102,111,114]⟩,⟨#[105,110]⟩,⟨#[110,101,120,116]⟩,⟨#[101,120,105,116]⟩,⟨#[114,101,116,117,114,110]⟩,⟨#[100,101,108,101,116,101]⟩,⟨#[108,101,110,103,116,104]⟩,⟨#[115,117,98,115,116,114]⟩,⟨#[105,110,100,101,120]⟩,⟨#[117,112,112,101,114]⟩,⟨#[103,115,117,98]⟩,⟨#[110,114]⟩,⟨#[110,102]⟩]
def mw:List E:=uy [⟨#[43]⟩,⟨#[45]⟩,⟨#[42]⟩,⟨#[47]⟩,⟨#[37]⟩,⟨#[46]⟩,⟨#[60]⟩,⟨#[60,61]⟩,⟨#[61,61]⟩,⟨#[33,61]⟩,⟨#[62]⟩,⟨#[62,61]⟩,⟨#[38,38]⟩,⟨#[124,124]⟩]
def mz (l:List E)(s:ByteArray):Bool:=l.any fun e=>s.toList==(lu e).toList
def eu (s:ByteArray):Bool:=d8 s&&!mz kwL s
def emB (s:ByteArray):Bool:=s.toList==(ByteArray.mk #[]).toList
def fd (k n:Int)(s:ByteArray)(m:Int):Bool :=
 if k=1 then inR n 0 2147483647&&(emB s&&(m==0))
 else decide (n=0)&&(
  if k=2 then dE 39 s&&(m==0)
  else if k=3 then eu s&&(m==0)
  else if k=4∨k=9 then eu s&&(m==1)
  else if k=5∨k=7∨k=8∨k=12∨k=17 then emB s&&(m==1)
  else if k=6 then mz mw s&&(m==2)
  else if k=10 then (m==1)&&ql s
  else if k=18 then (m==2)&&ql s
  else if k=11 then eu s&&decide (m≤4)
  else if k=13 then emB s&&(m==3)
  else if k=14∨k=15 then emB s&&(m==0)
  else if k=16 then emB s&&(m==2)
  else false)
def oA (e:E):Bool:=match e with | .agg [.int _ k,.int _ n,.str s,.lst _ _ _ _ l]=>fd k n s l.length|_=>false
def dV (e:E):List E:=match e with | .agg [_,_,_,.lst _ _ _ _ l]=>l|_=>[]
theorem ey (e x:E)(h:x∈dV e):x.sz<e.sz:=by
 unfold dV at h
 split at h
 ·have:=E.szL_mem h
  simp only [E.sz,E.szL]
  have h2:0<List.length _:=List.length_pos_of_mem h
  omega
 ·cases h
def iz (f:Nat)(e:E):Nat:=sC 100 oA dV f e
def jR (f:Nat)(e:E):Nat:=lw 100 dV f e
def okX (e:E):Bool:=okE oA dV e
def ff (e:E):Bool:=decide (jR 10 e≤100)&&okX e
theorem zp5 (e:E):ff e=decide (iz 10 e≤100):=(zw7 omq ey 10 e).symm
def joC (ts:List ByteArray):ByteArray:=gP (ts.map E.str) ⟨#[44,32]⟩
def atB (ts:List ByteArray)(k:Nat):ByteArray:=ts.getD k ByteArray.empty
def oB (k n:Int)(s:ByteArray)(ts:List ByteArray):ByteArray :=
 if k=1 then iO n
 else if k=2 then (⟨#[39]⟩++s)++⟨#[39]⟩
 else if k=3 then s
 else if k=4 then ((s++⟨#[91]⟩)++joC ts)++⟨#[93]⟩
 else if k=5 then ⟨#[36]⟩++joC ts
 else if k=6 then ((((((⟨#[40]⟩:ByteArray)++atB ts 0)++⟨#[32]⟩)++s)++⟨#[32]⟩)++atB ts 1)++⟨#[41]⟩
 else if k=7 then ⟨#[33]⟩++joC ts
 else if k=8 then ⟨#[45]⟩++joC ts
 else if k=9 then ((((⟨#[40]⟩:ByteArray)++joC ts)++⟨#[32,105,110,32]⟩)++s)++⟨#[41]⟩
 else if k=10 then ((((⟨#[40]⟩:ByteArray)++joC ts)++⟨#[32,126,32,47]⟩)++s)++⟨#[47,41]⟩
 else if k=11 then ((s++(⟨#[40]⟩:ByteArray))++joC ts)++⟨#[41]⟩
 else if k=12 then (⟨#[108,101,110,103,116,104,40]⟩++joC ts)++⟨#[41]⟩
 else if k=13 then (⟨#[115,117,98,115,116,114,40]⟩++joC ts)++⟨#[41]⟩
 else if k=14 then ⟨#[110,114]⟩
 else if k=15 then ⟨#[110,102]⟩
 else if k=16 then (⟨#[105,110,100,101,120,40]⟩++joC ts)++⟨#[41]⟩
 else if k=17 then (⟨#[117,112,112,101,114,40]⟩++joC ts)++⟨#[41]⟩
 else (((((⟨#[103,115,117,98,40]⟩++atB ts 0)++⟨#[32,126,32,47]⟩)++s)++⟨#[47,44,32]⟩)++atB ts 1)++⟨#[41]⟩
def txF:Nat→E→ByteArray
 | 0,_=>ByteArray.empty
 | f+1,e=>match e with
  | .agg [.int _ k,.int _ n,.str s,.lst _ _ _ _ l]=>oB k n s (l.map (txF f))
  | _=>ByteArray.empty
def txE (e:E):ByteArray:=txF (e.sz+1) e
theorem xr:∀(n f:Nat) (e:E),e.sz<n→e.sz<f→txF f e=txE e
 | 0,_,_,h,_=>absurd h (Nat.not_lt_zero _)
 | n+1,0,_,_,h=>absurd h (Nat.not_lt_zero _)
 | n+1,f+1,e,h1,h2=>by
  have key:∀x∈dV e,txF f x=txF e.sz x:=fun x hx=>by
   have hs:=ey e x hx
   rw [xr n f x omq omq,xr n e.sz x omq hs]
  unfold txE
  unfold txF
  split
  ·rename_i k n' s T A c m l
   congr 1
   exact List.map_congr_left key
  ·rfl
theorem lA (i j:IntKind)(k n:Int)(s:ByteArray)(w:Nat)(T:TypeId)(A:Option Addr)(c:Nat)(l:List E):txE (.agg [.int i k,.int j n,.str s,.lst w T A c l])=oB k n s (l.map txE):=by
 show oB k n s (l.map (txF (E.sz (.agg [.int i k,.int j n,.str s,.lst w T A c l]))))=_
 congr 1
 refine List.map_congr_left fun x hx=>?_
 exact xr (x.sz+1) _ x omq (ey _ x hx)
def smB:List ByteArray→Nat
 | []=>0
 | t :: r=>t.size+2+smB r
theorem q9 (x:ByteArray):joC [x]=x:=by
 unfold joC gP
 simp only [List.map_cons,List.map_nil,lu]
 rw [Lib.join_one,sA]
theorem pJ (x y:ByteArray)(r:List ByteArray):joC (x :: y :: r)=(x++⟨#[44,32]⟩)++joC (y :: r):=by
 unfold joC gP
 simp only [List.map_cons,lu]
 have hj:∀(sep u:List UInt8) (v:List (List UInt8)),Lib.joinTail sep (u :: v)=sep++(u++Lib.joinTail sep v):=fun sep u v=>by simp [Lib.joinTail]
 rw [Lib.join_cons,hj,Lib.join_cons,gQ,gQ,sA,ByteArray.append_assoc]
theorem oC:∀ts:List ByteArray,(joC ts).size≤smB ts
 | []=>Nat.zero_le _
 | [x]=>by rw [q9];simp only [smB];omega
 | x :: y :: r=>by
  rw [pJ,ByteArray.size_append',ByteArray.size_append']
  have h:=oC (y :: r)
  have h2:(⟨#[44,32]⟩:ByteArray).size=2:=rfl
  simp only [smB] at h ⊢
  omega
theorem sR:∀(ts:List ByteArray) (k:Nat),(atB ts k).size≤smB ts
 | [],_=>Nat.zero_le _
 | x :: r,0=>by simp only [smB];show x.size≤_;omega
 | x :: r,k+1=>by
  have:=sR r k
  simp only [smB]
  show (atB r k).size≤_;omega
theorem zi8:∀ts:List ByteArray,(atB ts 0).size+(atB ts 1).size≤smB ts
 | []=>Nat.zero_le _
 | x :: r=>by
  have:=sR r 0
  simp only [smB]
  show x.size+(atB r 0).size≤_;omega
theorem zX {c:Prop}[Decidable c]{a b:ByteArray}{n:Nat}(ha:a.size≤n)(hb:b.size≤n):(if c then a else b).size≤n:=by split<;>assumption
theorem uz {k n:Int}(hn : -9223372036854775808≤n∧n≤9223372036854775807)(s:ByteArray)(ts:List ByteArray):(oB k n s ts).size≤30+s.size+smB ts:=by
 have h1:=oC ts
 have h2:=zi8 ts
 have h3:=qE hn.1 hn.2
 have hm:∀a:Array UInt8,(ByteArray.mk a).size=a.size:=fun _=>rfl
 unfold oB
 repeat' refine zX ?_ ?_
 all_goals
  try simp only [ByteArray.size_append',ByteArray.size_mk',List.size_toArray,List.length_cons,List.length_nil]
  omega
theorem oD:∀(n:Nat) (e:E),e.Ty prog 26→e.sz<n→(txE e).size+2≤40*(1+e.sz)
 | 0,_,_,h=>absurd h (Nat.not_lt_zero _)
 | n+1,e,he,h=>by
  obtain⟨k,m,s,xA,xc,l,rfl,-,gm,-,⟨hl,hk⟩,-⟩:=aW he
  have h1:=uz (k:=k) (tB gm) s (l.map txE)
  rw [lA]
  simp only [E.sz,E.szL] at h ⊢
  have key:∀r:List E,(∀x∈r,x.Ty prog 26)→E.szL r≤E.szL l→(∀x∈r,x∈l)→smB (r.map txE)≤40*(r.length+E.szL r):=fun r=>by
   induction r with
   | nil=>intros;exact Nat.zero_le _
   | cons x r ih =>
    intro a b c
    simp only [E.szL] at b
    have i1:=ih (fun y hy=>a y (mco _ hy)) omq (fun y hy=>c y (mco _ hy))
    have hxm:=c x (mcs ..)
    have h0:0<l.length:=List.length_pos_of_mem hxm
    have i2:=oD n x (a x (mcs ..)) omq
    simp only [List.map_cons,smB,List.length_cons,E.szL]
    omega
  have h2:=key l hl (nlr _) (fun _ h=>h)
  omega
theorem jS {e:E}(he:e.Ty prog 26):(txE e).size≤40*(1+e.sz):=by have:=oD (e.sz+1) e he omq;omega
theorem zq2:∀{l:List E},(∀x∈l,x.Ty prog 26)→smB (l.map txE)≤40*(l.length+E.szL l)
 | [],_=>Nat.zero_le _
 | x :: r,h=>by
  have h1:=zq2 (l:=r) fun y hy=>h y (mco _ hy)
  have h2:=oD (x.sz+1) x (h x (mcs ..)) omq
  simp only [List.map_cons,smB,List.length_cons,E.szL]
  omega
theorem sS {ns:List ByteArray}(h:∀s∈ns,s.size≤9223372036854775807):∀e∈uy ns,e.Ty prog 9:=fun e he=>by
 obtain⟨s,hs,rfl⟩:=List.mem_map.1 he
 have:=h s hs
 simp only [E.Ty];exact⟨underlying9,by unfold maxLen;omega⟩
theorem pK {ns:List ByteArray}:∀e∈uy ns,e.enc.length=1:=fun e he=>by obtain⟨x,-,rfl⟩:=List.mem_map.1 he;rfl
theorem zr2:∀e∈kwL,e.Ty prog 9:=sS (by decide)
theorem xt:∀e∈mw,e.Ty prog 9:=sS (by decide)
theorem xu {l:List E}(hl:∀e∈l,e.Ty prog 9)(hlen:l.length≤1048576)(s:ByteArray):Ctr prog 75 [.c (.ro l.length 1 (acL l)),.c (.v (.string s))] [] (.c (.v (.bool (mz l s)))) []:=by
 have hk:∀e∈l,e.enc.length=1:=fun e he=>by obtain⟨x,rfl,-⟩:=(hl e he).str_ underlying9;rfl
 refine az func75 rfl rfl ?_
 repeat' (first|(apply ay;refine ai ?_)|refine aj ?_|refine ab ?_|refine aa fun C=>?_|refine ac ?_|refine ah ?_)
 refine aY (fun k:Nat=>⟨ft [(0,.c (.ro l.length 1 (acL l))),(1,.c (.v (.string s))),(5,.c (.v (.int .i64 (k:Int))))],eW [],0,[],18⟩)
  (fun N k=>k+N=l.length∧∀j y,j<k→l[j]? = some y→(s.toList==(lu y).toList)=false) l.length 0 ⟨omq,fun j y hj=>absurd hj (Nat.not_lt_zero j)⟩ ?_ ?_
 ·(refine aL _ _ rfl rfl ?_ ?_<;>exact tdy0)
 rintro N k ⟨hN,hr⟩
 try dsimp only
 repeat' (first|(apply ay;first|refine ak ?_|refine bC ?_|refine aA ?_)|refine aj ?_|refine ab ?_|refine aa fun C=>?_|refine ac ?_)
 refine ae rqf (fun h1=>?_) fun h1=>?_
 ·have hk':k<l.length:=by simpa using h1
  obtain⟨x,hx⟩:∃x,l[k]? = some x:=⟨_,List.getElem?_eq_getElem hk'⟩
  obtain⟨z,rfl,-⟩:=(hl x (mge hx)).str_ underlying9
  repeat' (first|(apply ay;first|refine ak ?_|refine dD ?_|refine gJ ?_|refine aC ?_)|refine aj ?_|refine ab ?_|refine aa fun C=>?_|refine ac ?_|refine ah ?_|refine al ?_)
  refine ae rqf (fun hC=>?_) fun hC=>?_
  ·have e:mz l s=true:=List.any_eq_true.2 ⟨_,mge hx,by rw [beq_iff_eq] at hC ⊢;exact hC.symm⟩
   rw [e]
   repeat' (first|(apply ay;refine ai ?_)|refine aj ?_|refine ab ?_|refine aa fun C=>?_|refine ac ?_)
   exact eo
  ·repeat' (first|(apply ay;first|refine ak ?_|refine ai ?_|refine aw ?_)|refine aj ?_|refine ab ?_|refine aa fun C=>?_|refine al ?_)
   refine⟨N-1,k+1,omq,⟨omq,fun j y hj hy=>?_⟩,?_⟩
   ·by_cases e:j=k
    ·rw [e,hx] at hy;injection hy with hy;subst hy
     cases hb:(s.toList==(lu (E.str z)).toList) with
     | false=>rfl
     | true=>rw [beq_iff_eq] at hb;rw [←hC];exact (beq_iff_eq.2 hb.symm).symm
    ·exact hr j y omq hy
   ·(refine aL _ _ rfl rfl ?_ ?_<;>exact tdy0)
 ·have hk':¬k<l.length:=by simpa using h1
  have e:mz l s=false:=by
   cases hb:mz l s with
   | false=>rfl
   | true =>
    obtain⟨x,hx,hp⟩:=List.any_eq_true.1 hb
    obtain⟨j,hj⟩:=List.getElem?_of_mem hx
    have:=(List.getElem?_eq_some_iff.1 hj).1
    rw [hr j x omq hj] at hp;cases hp
  rw [e]
  repeat' (first|(apply ay;refine ai ?_)|refine aj ?_|refine ab ?_|refine aa fun C=>?_|refine ac ?_|refine aE ?_)
  exact eo
theorem xv:Ctr prog 107 [] [] (.c (.ow 9 kwL.length 1 (acL kwL))) []:=by
 refine az func107 rfl rfl ?_
 repeat' (first|(apply ay;first|refine ai ?_|refine dT ?_)|refine aj ?_|refine ab ?_|refine aa fun C=>?_|refine ac ?_)
 refine am ?_
 refine bA rfl (jg (bE rfl rfl rfl rqf aQ)) ⟨?_,rfl⟩
 rfl
theorem xw:Ctr prog 58 [] [] (.c (.ow 9 mw.length 1 (acL mw))) []:=by
 refine az func58 rfl rfl ?_
 repeat' (first|(apply ay;first|refine ai ?_|refine dT ?_)|refine aj ?_|refine ab ?_|refine aa fun C=>?_|refine ac ?_)
 refine am ?_
 refine bA rfl (jg (bE rfl rfl rfl rqf aQ)) ⟨?_,rfl⟩
 rfl
theorem zY:Ctr prog 81 [] [] (.c (.ow 9 mw.length 1 (acL mw))) []:=by
 refine az func81 rfl rfl ?_
 repeat' (first|(apply ay;first|refine ai ?_|refine dT ?_)|refine aj ?_|refine ab ?_|refine aa fun C=>?_|refine ac ?_)
 refine am ?_
 refine bA rfl (jg (bE rfl rfl rfl rqf aQ)) ⟨?_,rfl⟩
 rfl
theorem gz {s:ByteArray}(hs:s.size≤1048576):Ctr prog 79 [.c (.v (.string s))] [] (.c (.v (.bool (eu s)))) []:=by
 have c1:=ze hs
 have c2:Ctr prog 80 [.c (.ro kwL.length 1 (acL kwL)),.c (.v (.string s))] [] (.c (.v (.bool (mz kwL s)))) []:=mu zr2 pK (by decide) s
 unfold eu
 generalize d8 s=b1 at c1 ⊢
 generalize mz kwL s=b2 at c2 ⊢
 cases b1
 all_goals
  refine az func79 rfl rfl ?_
  repeat' (first|(apply ay;first|refine bH ?_|(refine aK ?_ ?_<;>intro hG<;>(try cases hG))|refine ak ?_|refine ai ?_|refine aH c1 ?_|refine aH c2 ?_|refine bI ?_|refine aB ?_|refine dT ?_)|refine aj ?_|refine ab ?_|refine aa fun C=>?_|refine ac ?_)
  exact eo
theorem fA {s:ByteArray}(hs:s.size≤1048576):Ctr prog 74 [.c (.v (.string s))] [] (.c (.v (.bool (eu s)))) []:=by
 have c1:=sj hs
 have c2:=xu zr2 (by decide) s
 have c3:=xv
 unfold eu
 generalize d8 s=b1 at c1 ⊢
 generalize mz kwL s=b2 at c2 ⊢
 cases b1
 all_goals
  refine az func74 rfl rfl ?_
  repeat' (first|(apply ay;first|refine bH ?_|(refine aK ?_ ?_<;>intro hG<;>(try cases hG))|refine ak ?_|refine ai ?_|refine aH c1 ?_|refine aH c2 ?_|refine db c3 ?_|refine bI ?_|refine aB ?_)|refine aj ?_|refine ab ?_|refine aa fun C=>?_|refine ac ?_)
  exact eo
theorem d9 {c1 c2 c3:AC}(h1:clo c1=true)(h2:clo c2=true)(h3:clo c3=true){l:List E}(j:Int):Ctr prog 77 [.c (.v (.int .i64 j)),.c (.pt 0 0)] [[c1,c2,c3,.ro l.length 4 (acL l)]] (.c (.v (.bool ((l.length:Int)==j)))) [[c1,c2,c3,.ro l.length 4 (acL l)]]:=by
 refine az func77 rfl rfl ?_
 repeat' (first|(apply ay;first|refine ak ?_|refine ai ?_|refine bf ?_|refine aI ?_|refine bC ?_|refine ao ?_)|refine aj ?_|refine ab ?_|refine aa fun C=>?_|refine ac ?_)
 refine am ?_
 refine dO rfl aJ rfl (by simp [bu,clo,aM,h1,h2,h3]) rfl ⟨?_,?_⟩
 all_goals rfl
theorem xx {s:ByteArray}(hs:s.size≤1048576){l:List E}(hl:l.length≤1048576):Ctr prog 47 [.ag [.v (.int .i64 2),.v (.int .i64 0),.v (.string s),.ro l.length 4 (acL l)]] [] (.c (.v (.bool (dE 39 s&&((l.length:Int)==0))))) []:=by
 have ct:=sk hs
 generalize dE 39 s=bt at ct ⊢
 have cM:=d9 (c1:=.v (.int .i64 2)) (c2:=.v (.int .i64 0)) (c3:=.v (.string s)) rfl rfl rfl (l:=l) 0
 have hq:bu [.v (.int .i64 2),.v (.int .i64 0),.v (.string s),.ro l.length 4 (acL l)]=true:=by simp [bu,clo,aM]
 all_goals cases bt
 all_goals
  refine az func47 rfl rfl ?_
  repeat' (first|(apply ay;first|refine bH ?_|(refine aK ?_ ?_<;>intro hG<;>(try cases hG))|refine ak ?_|refine ai ?_|refine bf ?_|refine aI ?_|refine aH ct ?_|refine aF 1 (cM) ?_ (hl:=bF rqf hq)|refine ao ?_|refine aN ?_|refine aB ?_|refine cE ?_|refine au ?_)|refine aj ?_|refine ab ?_|refine aa fun C=>?_|refine ac ?_|refine ah ?_|refine al ?_|(refine ae rqf ?_ ?_<;>intro hC<;>(try cases hC)))
 all_goals first
  | (refine am ?_;refine bA rfl aJ ⟨?_,rfl⟩;first|rfl|(rw [show emB s=true from hG];rfl)|(rw [show emB s=false from hG];rfl)|(rw [Bool.and_true])|(rw [Bool.and_false])|(simp [*];done))
theorem xy {s:ByteArray}(hs:s.size≤1048576){l:List E}(hl:l.length≤1048576):Ctr prog 47 [.ag [.v (.int .i64 3),.v (.int .i64 0),.v (.string s),.ro l.length 4 (acL l)]] [] (.c (.v (.bool (eu s&&((l.length:Int)==0))))) []:=by
 have cn:=gz hs
 generalize eu s=bn at cn ⊢
 have cM:=d9 (c1:=.v (.int .i64 3)) (c2:=.v (.int .i64 0)) (c3:=.v (.string s)) rfl rfl rfl (l:=l) 0
 have hq:bu [.v (.int .i64 3),.v (.int .i64 0),.v (.string s),.ro l.length 4 (acL l)]=true:=by simp [bu,clo,aM]
 all_goals cases bn
 all_goals
  refine az func47 rfl rfl ?_
  repeat' (first|(apply ay;first|refine bH ?_|(refine aK ?_ ?_<;>intro hG<;>(try cases hG))|refine ak ?_|refine ai ?_|refine bf ?_|refine aI ?_|refine aH cn ?_|refine aF 1 (cM) ?_ (hl:=bF rqf hq)|refine ao ?_|refine aN ?_|refine aB ?_|refine cE ?_|refine au ?_)|refine aj ?_|refine ab ?_|refine aa fun C=>?_|refine ac ?_|refine ah ?_|refine al ?_|(refine ae rqf ?_ ?_<;>intro hC<;>(try cases hC)))
 all_goals first
  | (refine am ?_;refine bA rfl aJ ⟨?_,rfl⟩;first|rfl|(rw [show emB s=true from hG];rfl)|(rw [show emB s=false from hG];rfl)|(rw [Bool.and_true])|(rw [Bool.and_false])|(simp [*];done))
theorem xz {s:ByteArray}(hs:s.size≤1048576){l:List E}(hl:l.length≤1048576):Ctr prog 47 [.ag [.v (.int .i64 4),.v (.int .i64 0),.v (.string s),.ro l.length 4 (acL l)]] [] (.c (.v (.bool (eu s&&((l.length:Int)==1))))) []:=by
 have cn:=gz hs
 generalize eu s=bn at cn ⊢
 have cM:=d9 (c1:=.v (.int .i64 4)) (c2:=.v (.int .i64 0)) (c3:=.v (.string s)) rfl rfl rfl (l:=l) 1
 have hq:bu [.v (.int .i64 4),.v (.int .i64 0),.v (.string s),.ro l.length 4 (acL l)]=true:=by simp [bu,clo,aM]
 all_goals cases bn
 all_goals
  refine az func47 rfl rfl ?_
  repeat' (first|(apply ay;first|refine bH ?_|(refine aK ?_ ?_<;>intro hG<;>(try cases hG))|refine ak ?_|refine ai ?_|refine bf ?_|refine aI ?_|refine aH cn ?_|refine aF 1 (cM) ?_ (hl:=bF rqf hq)|refine ao ?_|refine aN ?_|refine aB ?_|refine cE ?_|refine au ?_)|refine aj ?_|refine ab ?_|refine aa fun C=>?_|refine ac ?_|refine ah ?_|refine al ?_|(refine ae rqf ?_ ?_<;>intro hC<;>(try cases hC)))
 all_goals first
  | (refine am ?_;refine bA rfl aJ ⟨?_,rfl⟩;first|rfl|(rw [show emB s=true from hG];rfl)|(rw [show emB s=false from hG];rfl)|(rw [Bool.and_true])|(rw [Bool.and_false])|(simp [*];done))
theorem xB {s:ByteArray}(hs:s.size≤1048576){l:List E}(hl:l.length≤1048576):Ctr prog 47 [.ag [.v (.int .i64 5),.v (.int .i64 0),.v (.string s),.ro l.length 4 (acL l)]] [] (.c (.v (.bool (emB s&&((l.length:Int)==1))))) []:=by
 have cM:=d9 (c1:=.v (.int .i64 5)) (c2:=.v (.int .i64 0)) (c3:=.v (.string s)) rfl rfl rfl (l:=l) 1
 have hq:bu [.v (.int .i64 5),.v (.int .i64 0),.v (.string s),.ro l.length 4 (acL l)]=true:=by simp [bu,clo,aM]
 all_goals
  refine az func47 rfl rfl ?_
  repeat' (first|(apply ay;first|refine bH ?_|(refine aK ?_ ?_<;>intro hG<;>(try cases hG))|refine ak ?_|refine ai ?_|refine bf ?_|refine aI ?_|refine aF 1 (cM) ?_ (hl:=bF rqf hq)|refine ao ?_|refine aC ?_|refine aN ?_|refine aB ?_|refine cE ?_|refine au ?_)|refine aj ?_|refine ab ?_|refine aa fun C=>?_|refine ac ?_|refine ah ?_|refine al ?_|(refine ae rqf ?_ ?_<;>intro hC<;>(try cases hC)))
 all_goals first
  | (refine am ?_;refine bA rfl aJ ⟨?_,rfl⟩;first|rfl|(rw [show emB s=true from hG];rfl)|(rw [show emB s=false from hG];rfl)|(rw [Bool.and_true])|(rw [Bool.and_false])|(simp [*];done))
theorem xC {s:ByteArray}(hs:s.size≤1048576){l:List E}(hl:l.length≤1048576):Ctr prog 47 [.ag [.v (.int .i64 6),.v (.int .i64 0),.v (.string s),.ro l.length 4 (acL l)]] [] (.c (.v (.bool (mz mw s&&((l.length:Int)==2))))) []:=by
 have co:Ctr prog 80 [.c (.ro mw.length 1 (acL mw)),.c (.v (.string s))] [] (.c (.v (.bool (mz mw s)))) []:=mu xt pK (by decide) s
 generalize mz mw s=bo at co ⊢
 have c0:=zY
 have cM:=d9 (c1:=.v (.int .i64 6)) (c2:=.v (.int .i64 0)) (c3:=.v (.string s)) rfl rfl rfl (l:=l) 2
 have hq:bu [.v (.int .i64 6),.v (.int .i64 0),.v (.string s),.ro l.length 4 (acL l)]=true:=by simp [bu,clo,aM]
 all_goals cases bo
 all_goals
  refine az func47 rfl rfl ?_
  repeat' (first|(apply ay;first|(refine aK ?_ ?_<;>intro hG<;>(try cases hG))|refine ai ?_|refine bf ?_|refine aI ?_|refine ao ?_|refine aN ?_|refine aB ?_|refine cE ?_|refine au ?_)|refine aj ?_|refine ab ?_|(apply da;first|refine fg ?_|(refine e7 ?_ ?_<;>intro hG<;>(try cases hG))|(apply dC;refine aD ?_)|(apply iu;refine aD ?_)|refine dZ ?_|refine bW ?_|refine ei co ?_|refine ei c0 ?_|refine m5 1 (cM) ?_ (hl:=bF rqf hq)|refine aD ?_)|refine aj ?_|refine ab ?_|refine aa fun C=>?_|refine av krq krq fun C=>?_|refine ac ?_|refine ah ?_|refine al ?_|(refine ae rqf ?_ ?_<;>intro hC<;>(try cases hC)))
 all_goals first
  | (refine am ?_;refine bA rfl aJ ⟨?_,rfl⟩;first|rfl|(rw [show emB s=true from hG];rfl)|(rw [show emB s=false from hG];rfl)|(rw [Bool.and_true])|(rw [Bool.and_false])|(simp [*];done))
theorem xD {s:ByteArray}(hs:s.size≤1048576){l:List E}(hl:l.length≤1048576):Ctr prog 47 [.ag [.v (.int .i64 7),.v (.int .i64 0),.v (.string s),.ro l.length 4 (acL l)]] [] (.c (.v (.bool (emB s&&((l.length:Int)==1))))) []:=by
 have cM:=d9 (c1:=.v (.int .i64 7)) (c2:=.v (.int .i64 0)) (c3:=.v (.string s)) rfl rfl rfl (l:=l) 1
 have hq:bu [.v (.int .i64 7),.v (.int .i64 0),.v (.string s),.ro l.length 4 (acL l)]=true:=by simp [bu,clo,aM]
 all_goals
  refine az func47 rfl rfl ?_
  repeat' (first|(apply ay;first|refine bH ?_|(refine aK ?_ ?_<;>intro hG<;>(try cases hG))|refine ak ?_|refine ai ?_|refine bf ?_|refine aI ?_|refine aF 1 (cM) ?_ (hl:=bF rqf hq)|refine ao ?_|refine aC ?_|refine aN ?_|refine aB ?_|refine cE ?_|refine au ?_)|refine aj ?_|refine ab ?_|refine aa fun C=>?_|refine ac ?_|refine ah ?_|refine al ?_|(refine ae rqf ?_ ?_<;>intro hC<;>(try cases hC)))
 all_goals first
  | (refine am ?_;refine bA rfl aJ ⟨?_,rfl⟩;first|rfl|(rw [show emB s=true from hG];rfl)|(rw [show emB s=false from hG];rfl)|(rw [Bool.and_true])|(rw [Bool.and_false])|(simp [*];done))
theorem xF {s:ByteArray}(hs:s.size≤1048576){l:List E}(hl:l.length≤1048576):Ctr prog 47 [.ag [.v (.int .i64 8),.v (.int .i64 0),.v (.string s),.ro l.length 4 (acL l)]] [] (.c (.v (.bool (emB s&&((l.length:Int)==1))))) []:=by
 have cM:=d9 (c1:=.v (.int .i64 8)) (c2:=.v (.int .i64 0)) (c3:=.v (.string s)) rfl rfl rfl (l:=l) 1
 have hq:bu [.v (.int .i64 8),.v (.int .i64 0),.v (.string s),.ro l.length 4 (acL l)]=true:=by simp [bu,clo,aM]
 all_goals
  refine az func47 rfl rfl ?_
  repeat' (first|(apply ay;first|refine bH ?_|(refine aK ?_ ?_<;>intro hG<;>(try cases hG))|refine ak ?_|refine ai ?_|refine bf ?_|refine aI ?_|refine aF 1 (cM) ?_ (hl:=bF rqf hq)|refine ao ?_|refine aC ?_|refine aN ?_|refine aB ?_|refine cE ?_|refine au ?_)|refine aj ?_|refine ab ?_|refine aa fun C=>?_|refine ac ?_|refine ah ?_|refine al ?_|(refine ae rqf ?_ ?_<;>intro hC<;>(try cases hC)))
 all_goals first
  | (refine am ?_;refine bA rfl aJ ⟨?_,rfl⟩;first|rfl|(rw [show emB s=true from hG];rfl)|(rw [show emB s=false from hG];rfl)|(rw [Bool.and_true])|(rw [Bool.and_false])|(simp [*];done))
theorem xG {s:ByteArray}(hs:s.size≤1048576){l:List E}(hl:l.length≤1048576):Ctr prog 47 [.ag [.v (.int .i64 9),.v (.int .i64 0),.v (.string s),.ro l.length 4 (acL l)]] [] (.c (.v (.bool (eu s&&((l.length:Int)==1))))) []:=by
 have cn:=gz hs
 generalize eu s=bn at cn ⊢
 have cM:=d9 (c1:=.v (.int .i64 9)) (c2:=.v (.int .i64 0)) (c3:=.v (.string s)) rfl rfl rfl (l:=l) 1
 have hq:bu [.v (.int .i64 9),.v (.int .i64 0),.v (.string s),.ro l.length 4 (acL l)]=true:=by simp [bu,clo,aM]
 all_goals cases bn
 all_goals
  refine az func47 rfl rfl ?_
  repeat' (first|(apply ay;first|refine bH ?_|(refine aK ?_ ?_<;>intro hG<;>(try cases hG))|refine ak ?_|refine ai ?_|refine bf ?_|refine aI ?_|refine aH cn ?_|refine aF 1 (cM) ?_ (hl:=bF rqf hq)|refine ao ?_|refine aN ?_|refine aB ?_|refine cE ?_|refine au ?_)|refine aj ?_|refine ab ?_|refine aa fun C=>?_|refine ac ?_|refine ah ?_|refine al ?_|(refine ae rqf ?_ ?_<;>intro hC<;>(try cases hC)))
 all_goals first
  | (refine am ?_;refine bA rfl aJ ⟨?_,rfl⟩;first|rfl|(rw [show emB s=true from hG];rfl)|(rw [show emB s=false from hG];rfl)|(rw [Bool.and_true])|(rw [Bool.and_false])|(simp [*];done))
theorem uA {s:ByteArray}(hs:s.size≤1048576){l:List E}(hl:l.length≤1048576):Ctr prog 47 [.ag [.v (.int .i64 10),.v (.int .i64 0),.v (.string s),.ro l.length 4 (acL l)]] [] (.c (.v (.bool (((l.length:Int)==1)&&ql s)))) []:=by
 have cr:=nH hs
 generalize ql s=br at cr ⊢
 have cM:=d9 (c1:=.v (.int .i64 10)) (c2:=.v (.int .i64 0)) (c3:=.v (.string s)) rfl rfl rfl (l:=l) 1
 generalize ((l.length:Int)==1)=bm at cM ⊢
 cases bm
 all_goals have hq:bu [.v (.int .i64 10),.v (.int .i64 0),.v (.string s),.ro l.length 4 (acL l)]=true:=by simp [bu,clo,aM]
 all_goals cases br
 all_goals
  refine az func47 rfl rfl ?_
  repeat' (first|(apply ay;first|refine bH ?_|(refine aK ?_ ?_<;>intro hG<;>(try cases hG))|refine ak ?_|refine ai ?_|refine bf ?_|refine aI ?_|refine aH cr ?_|refine aF 1 (cM) ?_ (hl:=bF rqf hq)|refine ao ?_|refine aN ?_|refine aB ?_|refine cE ?_|refine au ?_)|refine aj ?_|refine ab ?_|refine aa fun C=>?_|refine ac ?_|refine ah ?_|refine al ?_|(refine ae rqf ?_ ?_<;>intro hC<;>(try cases hC)))
 all_goals first
  | (refine am ?_;refine bA rfl aJ ⟨?_,rfl⟩;first|rfl|(rw [show emB s=true from hG];rfl)|(rw [show emB s=false from hG];rfl)|(rw [Bool.and_true])|(rw [Bool.and_false])|(simp [*];done))
theorem uB {s:ByteArray}(hs:s.size≤1048576){l:List E}(hl:l.length≤1048576):Ctr prog 47 [.ag [.v (.int .i64 11),.v (.int .i64 0),.v (.string s),.ro l.length 4 (acL l)]] [] (.c (.v (.bool (eu s&&decide ((l.length:Int)≤4))))) []:=by
 have cn:=gz hs
 generalize eu s=bn at cn ⊢
 have hq:bu [.v (.int .i64 11),.v (.int .i64 0),.v (.string s),.ro l.length 4 (acL l)]=true:=by simp [bu,clo,aM]
 all_goals cases bn
 all_goals
  refine az func47 rfl rfl ?_
  repeat' (first|(apply ay;first|refine bH ?_|(refine aK ?_ ?_<;>intro hG<;>(try cases hG))|refine ai ?_|refine bf ?_|refine aI ?_|refine aH cn ?_|refine bC ?_|refine ao ?_|refine aN ?_|refine bp ?_|refine aB ?_|refine cE ?_|refine au ?_)|refine aj ?_|refine ab ?_|refine aa fun C=>?_|refine ac ?_|refine ah ?_|refine al ?_|(refine ae rqf ?_ ?_<;>intro hC<;>(try cases hC)))
 all_goals first
  | (refine am ?_;refine bA rfl aJ ⟨?_,rfl⟩;first|rfl|(rw [show emB s=true from hG];rfl)|(rw [show emB s=false from hG];rfl)|(rw [Bool.and_true])|(rw [Bool.and_false])|(simp [*];done))
theorem uC {s:ByteArray}(hs:s.size≤1048576){l:List E}(hl:l.length≤1048576):Ctr prog 47 [.ag [.v (.int .i64 12),.v (.int .i64 0),.v (.string s),.ro l.length 4 (acL l)]] [] (.c (.v (.bool (emB s&&((l.length:Int)==1))))) []:=by
 have cM:=d9 (c1:=.v (.int .i64 12)) (c2:=.v (.int .i64 0)) (c3:=.v (.string s)) rfl rfl rfl (l:=l) 1
 have hq:bu [.v (.int .i64 12),.v (.int .i64 0),.v (.string s),.ro l.length 4 (acL l)]=true:=by simp [bu,clo,aM]
 all_goals
  refine az func47 rfl rfl ?_
  repeat' (first|(apply ay;first|refine bH ?_|(refine aK ?_ ?_<;>intro hG<;>(try cases hG))|refine ak ?_|refine ai ?_|refine bf ?_|refine aI ?_|refine aF 1 (cM) ?_ (hl:=bF rqf hq)|refine ao ?_|refine aC ?_|refine aN ?_|refine aB ?_|refine cE ?_|refine au ?_)|refine aj ?_|refine ab ?_|refine aa fun C=>?_|refine ac ?_|refine ah ?_|refine al ?_|(refine ae rqf ?_ ?_<;>intro hC<;>(try cases hC)))
 all_goals first
  | (refine am ?_;refine bA rfl aJ ⟨?_,rfl⟩;first|rfl|(rw [show emB s=true from hG];rfl)|(rw [show emB s=false from hG];rfl)|(rw [Bool.and_true])|(rw [Bool.and_false])|(simp [*];done))
theorem uD {s:ByteArray}(hs:s.size≤1048576){l:List E}(hl:l.length≤1048576):Ctr prog 47 [.ag [.v (.int .i64 13),.v (.int .i64 0),.v (.string s),.ro l.length 4 (acL l)]] [] (.c (.v (.bool (emB s&&((l.length:Int)==3))))) []:=by
 have cM:=d9 (c1:=.v (.int .i64 13)) (c2:=.v (.int .i64 0)) (c3:=.v (.string s)) rfl rfl rfl (l:=l) 3
 have hq:bu [.v (.int .i64 13),.v (.int .i64 0),.v (.string s),.ro l.length 4 (acL l)]=true:=by simp [bu,clo,aM]
 all_goals
  refine az func47 rfl rfl ?_
  repeat' (first|(apply ay;first|refine bH ?_|(refine aK ?_ ?_<;>intro hG<;>(try cases hG))|refine ak ?_|refine ai ?_|refine bf ?_|refine aI ?_|refine aF 1 (cM) ?_ (hl:=bF rqf hq)|refine ao ?_|refine aC ?_|refine aN ?_|refine aB ?_|refine cE ?_|refine au ?_)|refine aj ?_|refine ab ?_|refine aa fun C=>?_|refine ac ?_|refine ah ?_|refine al ?_|(refine ae rqf ?_ ?_<;>intro hC<;>(try cases hC)))
 all_goals first
  | (refine am ?_;refine bA rfl aJ ⟨?_,rfl⟩;first|rfl|(rw [show emB s=true from hG];rfl)|(rw [show emB s=false from hG];rfl)|(rw [Bool.and_true])|(rw [Bool.and_false])|(simp [*];done))
theorem uE {s:ByteArray}(hs:s.size≤1048576){l:List E}(hl:l.length≤1048576):Ctr prog 47 [.ag [.v (.int .i64 14),.v (.int .i64 0),.v (.string s),.ro l.length 4 (acL l)]] [] (.c (.v (.bool (emB s&&((l.length:Int)==0))))) []:=by
 have cM:=d9 (c1:=.v (.int .i64 14)) (c2:=.v (.int .i64 0)) (c3:=.v (.string s)) rfl rfl rfl (l:=l) 0
 have hq:bu [.v (.int .i64 14),.v (.int .i64 0),.v (.string s),.ro l.length 4 (acL l)]=true:=by simp [bu,clo,aM]
 all_goals
  refine az func47 rfl rfl ?_
  repeat' (first|(apply ay;first|refine bH ?_|(refine aK ?_ ?_<;>intro hG<;>(try cases hG))|refine ak ?_|refine ai ?_|refine bf ?_|refine aI ?_|refine aF 1 (cM) ?_ (hl:=bF rqf hq)|refine ao ?_|refine aC ?_|refine aN ?_|refine aB ?_|refine cE ?_|refine au ?_)|refine aj ?_|refine ab ?_|refine aa fun C=>?_|refine ac ?_|refine ah ?_|refine al ?_|(refine ae rqf ?_ ?_<;>intro hC<;>(try cases hC)))
 all_goals first
  | (refine am ?_;refine bA rfl aJ ⟨?_,rfl⟩;first|rfl|(rw [show emB s=true from hG];rfl)|(rw [show emB s=false from hG];rfl)|(rw [Bool.and_true])|(rw [Bool.and_false])|(simp [*];done))
theorem uF {s:ByteArray}(hs:s.size≤1048576){l:List E}(hl:l.length≤1048576):Ctr prog 47 [.ag [.v (.int .i64 15),.v (.int .i64 0),.v (.string s),.ro l.length 4 (acL l)]] [] (.c (.v (.bool (emB s&&((l.length:Int)==0))))) []:=by
 have cM:=d9 (c1:=.v (.int .i64 15)) (c2:=.v (.int .i64 0)) (c3:=.v (.string s)) rfl rfl rfl (l:=l) 0
 have hq:bu [.v (.int .i64 15),.v (.int .i64 0),.v (.string s),.ro l.length 4 (acL l)]=true:=by simp [bu,clo,aM]
 all_goals
  refine az func47 rfl rfl ?_
  repeat' (first|(apply ay;first|refine bH ?_|(refine aK ?_ ?_<;>intro hG<;>(try cases hG))|refine ak ?_|refine ai ?_|refine bf ?_|refine aI ?_|refine aF 1 (cM) ?_ (hl:=bF rqf hq)|refine ao ?_|refine aC ?_|refine aN ?_|refine aB ?_|refine cE ?_|refine au ?_)|refine aj ?_|refine ab ?_|refine aa fun C=>?_|refine ac ?_|refine ah ?_|refine al ?_|(refine ae rqf ?_ ?_<;>intro hC<;>(try cases hC)))
 all_goals first
  | (refine am ?_;refine bA rfl aJ ⟨?_,rfl⟩;first|rfl|(rw [show emB s=true from hG];rfl)|(rw [show emB s=false from hG];rfl)|(rw [Bool.and_true])|(rw [Bool.and_false])|(simp [*];done))
theorem uG {s:ByteArray}(hs:s.size≤1048576){l:List E}(hl:l.length≤1048576):Ctr prog 47 [.ag [.v (.int .i64 16),.v (.int .i64 0),.v (.string s),.ro l.length 4 (acL l)]] [] (.c (.v (.bool (emB s&&((l.length:Int)==2))))) []:=by
 have cM:=d9 (c1:=.v (.int .i64 16)) (c2:=.v (.int .i64 0)) (c3:=.v (.string s)) rfl rfl rfl (l:=l) 2
 have hq:bu [.v (.int .i64 16),.v (.int .i64 0),.v (.string s),.ro l.length 4 (acL l)]=true:=by simp [bu,clo,aM]
 all_goals
  refine az func47 rfl rfl ?_
  repeat' (first|(apply ay;first|refine bH ?_|(refine aK ?_ ?_<;>intro hG<;>(try cases hG))|refine ak ?_|refine ai ?_|refine bf ?_|refine aI ?_|refine aF 1 (cM) ?_ (hl:=bF rqf hq)|refine ao ?_|refine aC ?_|refine aN ?_|refine aB ?_|refine cE ?_|refine au ?_)|refine aj ?_|refine ab ?_|refine aa fun C=>?_|refine ac ?_|refine ah ?_|refine al ?_|(refine ae rqf ?_ ?_<;>intro hC<;>(try cases hC)))
 all_goals first
  | (refine am ?_;refine bA rfl aJ ⟨?_,rfl⟩;first|rfl|(rw [show emB s=true from hG];rfl)|(rw [show emB s=false from hG];rfl)|(rw [Bool.and_true])|(rw [Bool.and_false])|(simp [*];done))
theorem uH {s:ByteArray}(hs:s.size≤1048576){l:List E}(hl:l.length≤1048576):Ctr prog 47 [.ag [.v (.int .i64 17),.v (.int .i64 0),.v (.string s),.ro l.length 4 (acL l)]] [] (.c (.v (.bool (emB s&&((l.length:Int)==1))))) []:=by
 have cM:=d9 (c1:=.v (.int .i64 17)) (c2:=.v (.int .i64 0)) (c3:=.v (.string s)) rfl rfl rfl (l:=l) 1
 have hq:bu [.v (.int .i64 17),.v (.int .i64 0),.v (.string s),.ro l.length 4 (acL l)]=true:=by simp [bu,clo,aM]
 all_goals
  refine az func47 rfl rfl ?_
  repeat' (first|(apply ay;first|refine bH ?_|(refine aK ?_ ?_<;>intro hG<;>(try cases hG))|refine ak ?_|refine ai ?_|refine bf ?_|refine aI ?_|refine aF 1 (cM) ?_ (hl:=bF rqf hq)|refine ao ?_|refine aC ?_|refine aN ?_|refine aB ?_|refine cE ?_|refine au ?_)|refine aj ?_|refine ab ?_|refine aa fun C=>?_|refine ac ?_|refine ah ?_|refine al ?_|(refine ae rqf ?_ ?_<;>intro hC<;>(try cases hC)))
 all_goals first
  | (refine am ?_;refine bA rfl aJ ⟨?_,rfl⟩;first|rfl|(rw [show emB s=true from hG];rfl)|(rw [show emB s=false from hG];rfl)|(rw [Bool.and_true])|(rw [Bool.and_false])|(simp [*];done))
theorem uI {s:ByteArray}(hs:s.size≤1048576){l:List E}(hl:l.length≤1048576):Ctr prog 47 [.ag [.v (.int .i64 18),.v (.int .i64 0),.v (.string s),.ro l.length 4 (acL l)]] [] (.c (.v (.bool (((l.length:Int)==2)&&ql s)))) []:=by
 have cr:=nH hs
 generalize ql s=br at cr ⊢
 have cM:=d9 (c1:=.v (.int .i64 18)) (c2:=.v (.int .i64 0)) (c3:=.v (.string s)) rfl rfl rfl (l:=l) 2
 generalize ((l.length:Int)==2)=bm at cM ⊢
 cases bm
 all_goals have hq:bu [.v (.int .i64 18),.v (.int .i64 0),.v (.string s),.ro l.length 4 (acL l)]=true:=by simp [bu,clo,aM]
 all_goals cases br
 all_goals
  refine az func47 rfl rfl ?_
  repeat' (first|(apply ay;first|refine bH ?_|(refine aK ?_ ?_<;>intro hG<;>(try cases hG))|refine ak ?_|refine ai ?_|refine bf ?_|refine aI ?_|refine aH cr ?_|refine aF 1 (cM) ?_ (hl:=bF rqf hq)|refine ao ?_|refine aN ?_|refine aB ?_|refine cE ?_|refine au ?_)|refine aj ?_|refine ab ?_|refine aa fun C=>?_|refine ac ?_|refine ah ?_|refine al ?_|(refine ae rqf ?_ ?_<;>intro hC<;>(try cases hC)))
 all_goals first
  | (refine am ?_;refine bA rfl aJ ⟨?_,rfl⟩;first|rfl|(rw [show emB s=true from hG];rfl)|(rw [show emB s=false from hG];rfl)|(rw [Bool.and_true])|(rw [Bool.and_false])|(simp [*];done))
theorem xH {s:ByteArray}(hs:s.size≤1048576){l:List E}(hl:l.length≤1048576)(n:Int):Ctr prog 47 [.ag [.v (.int .i64 1),.v (.int .i64 n),.v (.string s),.ro l.length 4 (acL l)]] [] (.c (.v (.bool (inR n 0 2147483647&&(emB s&&((l.length:Int)==0)))))) []:=by
 have cw:=iN n 0 2147483647
 generalize inR n 0 2147483647=bw at cw ⊢
 have hq:bu [.v (.int .i64 1),.v (.int .i64 n),.v (.string s),.ro l.length 4 (acL l)]=true:=by simp [bu,clo,aM]
 have cM:=d9 (c1:=.v (.int .i64 1)) (c2:=.v (.int .i64 n)) (c3:=.v (.string s)) rfl rfl rfl (l:=l) 0
 cases bw
 all_goals
  refine az func47 rfl rfl ?_
  repeat' (first|(apply ay;first|refine bH ?_|(refine aK ?_ ?_<;>intro hG<;>(try cases hG))|refine ak ?_|refine ai ?_|refine bf ?_|refine aI ?_|refine aH cw ?_|refine aF 1 (cM) ?_ (hl:=bF rqf hq)|refine ao ?_|refine aC ?_|refine aN ?_|refine aB ?_|refine cE ?_|refine au ?_)|refine aj ?_|refine ab ?_|refine aa fun C=>?_|refine ac ?_|refine ah ?_|refine al ?_|(refine ae rqf ?_ ?_<;>intro hC<;>(try cases hC)))
 all_goals first
  | (refine am ?_;refine bA rfl aJ ⟨?_,rfl⟩;first|rfl|(rw [show emB s=true from hG];rfl)|(rw [show emB s=false from hG];rfl)|(rw [Bool.and_true])|(rw [Bool.and_false])|(simp [*];done))
theorem xI {s:ByteArray}(hs:s.size≤1048576){l:List E}(hl:l.length≤1048576){k n:Int}(hk:¬k=1)(hn:¬n=0):Ctr prog 47 [.ag [.v (.int .i64 k),.v (.int .i64 n),.v (.string s),.ro l.length 4 (acL l)]] [] (.c (.v (.bool false))) []:=by
 refine az func47 rfl rfl ?_
 repeat' (first|(apply ay;first|refine bH ?_|(refine aK ?_ ?_<;>intro hG<;>(try cases hG))|refine ai ?_|refine bf ?_|refine aI ?_|refine aN ?_|refine aB ?_|refine cE ?_|refine au ?_)|refine aj ?_|refine ab ?_|refine aa fun C=>?_|refine ac ?_)
 ·refine ae rqf (fun hC=>?_) fun hC=>absurd (by simpa using hC) hn
  repeat' (first|(apply ay;refine ai ?_)|refine aj ?_|refine ab ?_|refine aa fun C=>?_|refine ac ?_)
  exact eo
 ·exact absurd (by simpa using hG) hk
theorem xJ {s:ByteArray}(hs:s.size≤1048576){l:List E}(hl:l.length≤1048576){k:Int}(h1:¬k=1)(h2:¬k=2)(h3:¬k=3)(h4:¬k=4)(h5:¬k=5)(h6:¬k=6)(h7:¬k=7)(h8:¬k=8)(h9:¬k=9)(h10:¬k=10)(h11:¬k=11)(h12:¬k=12)(h13:¬k=13)(h14:¬k=14)(h15:¬k=15)(h16:¬k=16)(h17:¬k=17)(h18:¬k=18):Ctr prog 47 [.ag [.v (.int .i64 k),.v (.int .i64 0),.v (.string s),.ro l.length 4 (acL l)]] [] (.c (.v (.bool false))) []:=by
 refine az func47 rfl rfl ?_
 repeat' (first|(apply ay;first|refine bH ?_|(refine aK ?_ ?_<;>intro hG<;>(try cases hG))|refine ai ?_|refine bf ?_|refine aI ?_|refine aN ?_|refine aB ?_|refine cE ?_|refine au ?_)|refine aj ?_|refine ab ?_|refine aa fun C=>?_|refine ac ?_)
 rotate_left
 ·exact absurd (by simpa using hG) h1
 refine ar rfl ?_
 repeat' (first|(apply ay;first|refine ai ?_|refine bf ?_|refine aI ?_|refine ao ?_)|refine aj ?_|refine ab ?_|refine aa fun C=>?_|refine ac ?_|refine ah ?_|refine al ?_)
 iterate 40 ((try (first|refine ae rqf (fun hC=>absurd (eq_of_beq hC) (by assumption)) fun hC=>?_|refine ar rfl ?_));(try repeat' (first|(apply ay;first|refine ai ?_|refine ao ?_)|refine aj ?_|refine ab ?_|refine aa fun C=>?_|refine ac ?_|refine al ?_)))
 exact eo
theorem uJ {k n:Int}{s:ByteArray}(hs:s.size≤1048576){l:List E}(hl:l.length≤1048576):Ctr prog 47 [.ag [.v (.int .i64 k),.v (.int .i64 n),.v (.string s),.ro l.length 4 (acL l)]] [] (.c (.v (.bool (fd k n s l.length)))) []:=by
 by_cases h1:k=1
 ·subst h1
  exact xH hs hl n
 by_cases hn:n=0
 ·subst hn
  by_cases h2:k=2
  ·subst h2
   exact xx hs hl
  by_cases h3:k=3
  ·subst h3
   exact xy hs hl
  by_cases h4:k=4
  ·subst h4
   exact xz hs hl
  by_cases h5:k=5
  ·subst h5
   exact xB hs hl
  by_cases h6:k=6
  ·subst h6
   exact xC hs hl
  by_cases h7:k=7
  ·subst h7
   exact xD hs hl
  by_cases h8:k=8
  ·subst h8
   exact xF hs hl
  by_cases h9:k=9
  ·subst h9
   exact xG hs hl
  by_cases h10:k=10
  ·subst h10
   exact uA hs hl
  by_cases h11:k=11
  ·subst h11
   exact uB hs hl
  by_cases h12:k=12
  ·subst h12
   exact uC hs hl
  by_cases h13:k=13
  ·subst h13
   exact uD hs hl
  by_cases h14:k=14
  ·subst h14
   exact uE hs hl
  by_cases h15:k=15
  ·subst h15
   exact uF hs hl
  by_cases h16:k=16
  ·subst h16
   exact uG hs hl
  by_cases h17:k=17
  ·subst h17
   exact uH hs hl
  by_cases h18:k=18
  ·subst h18
   exact uI hs hl
  rw [show fd k 0 s l.length=false by simp [fd, *]]
  exact xJ hs hl h1 h2 h3 h4 h5 h6 h7 h8 h9 h10 h11 h12 h13 h14 h15 h16 h17 h18
 ·rw [show fd k n s l.length=false by simp [fd, *]]
  exact xI hs hl h1 hn
end Go.Proofs.YtomolhbkdhjofaaGreatDoor
