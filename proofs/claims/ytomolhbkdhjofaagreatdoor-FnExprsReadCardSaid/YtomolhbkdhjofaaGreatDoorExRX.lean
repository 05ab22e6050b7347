/- T -/
import Derived.Test.YtomolhbkdhjofaaGreatDoorExRW
set_option maxHeartbeats 0
set_option maxRecDepth 100000
namespace Go.Proofs.YtomolhbkdhjofaaGreatDoor
open Go.RowKit Go.Proofs.Tryz
def qm (x:E):E:=.str (txE x)
theorem rc (l:List E):joC (l.map txE)=gP (l.map qm) ⟨#[44,32]⟩:=by
 unfold joC
 rw [List.map_map]
 rfl
theorem xK {l:List E}(hl:∀x∈l,x.Ty prog 26):(joC (l.map txE)).size≤40*(l.length+E.szL l):=Nat.le_trans (oC _) (zq2 hl)
theorem sV:∀(l:List E) (k:Nat),E.szL (l.take k)≤E.szL l
 | [],k=>by simp [E.szL]
 | x :: r,0=>Nat.zero_le _
 | x :: r,k+1=>by
  have:=sV r k
  simp only [List.take_succ_cons,E.szL];omega
theorem sW {l:List E}(hl:∀x∈l,x.Ty prog 26)(k:Nat):(gP ((l.map qm).take k) ⟨#[44,32]⟩).size≤40*(l.length+E.szL l):=by
 rw [←List.map_take,←rc]
 have h1:=xK (l:=l.take k) fun x hx=>hl x (List.mem_of_mem_take hx)
 have h2:=sV l k
 have h3:(l.take k).length≤l.length:=by rw [List.length_take];omega
 omega
theorem ziQ {l:List E}(hl:∀e∈l,e.Ty prog 26)(hk:∀e∈l,e.enc.length=4)(hlen:l.length+E.szL l≤1048576)(hc:∀x∈l,Ctr prog 22 [.ag (acE x)] [] (.c (.v (.string (txE x)))) []):Ctr prog 45 [.c (.ro l.length 4 (acL l))] [] (.c (.v (.string (joC (l.map txE))))) []:=by
 rw [rc]
 have hj:=sW hl l.length
 have hll:(l.map qm).length=l.length:=List.length_map ..
 rw [List.take_of_length_le omq] at hj
 have cj:=zc2 (l:=l.map qm) (fun e he=>by obtain⟨t,-,rfl⟩:=List.mem_map.1 he;exact⟨_,rfl⟩) ⟨#[44,32]⟩ omq omq
 rw [hll] at cj
 refine az func45 rfl rfl ?_
 repeat' (first|(apply ay;first|refine ak ?_|refine ai ?_|refine bC ?_)|refine aj ?_|refine ab ?_|refine aa fun C=>?_|refine ac ?_|refine ah ?_)
 refine aY (fun k:Nat=>⟨ft [(3,.c (.sl 9 k)),(6,.c (.ro l.length 4 (acL l))),(7,.c (.v (.int .i64 l.length))),(8,.c (.v (.int .i64 k)))],eW [(9,9,⟨9,1,k,false,owL ((l.take k).map qm)⟩)],0,[9],20⟩)
  (fun N k=>k+N=l.length) l.length 0 omq ?_ ?_
 ·refine (kz 9 (t:=3) 9 1 rfl rfl).trans ?_
  (refine aL _ _ rfl rfl ?_ ?_<;>exact tdy0)
 rintro N k hN
 try dsimp only
 repeat' (first|(apply ay;refine aA ?_)|refine aj ?_|refine ab ?_|refine aa fun C=>?_|refine ac ?_)
 refine ae rqf (fun hk1=>?_) fun hk1=>?_
 ·have hk':k<l.length:=by simpa using hk1
  obtain⟨x,hx⟩:∃x,l[k]? = some x:=⟨_,List.getElem?_eq_getElem hk'⟩
  have hxm:=mge hx
  have hxt:=hl x hxm
  have c3:=hc x hxm
  have hxz:=E.szL_mem hxm
  have hts:=jS hxt
  have e:(l.take (k+1)).map qm=(l.take k).map qm++[.str (txE x)]:=by rw [List.take_add_one,hx,Option.toList_some,List.map_append];rfl
  generalize txE x=T at c3 hts e
  obtain⟨y0,y1,y2,yA,yc,yl,rfl,-⟩:=aW hxt
  repeat' (first|(apply ay;first|refine ak ?_|refine ai ?_|refine cX ?_|refine bM ?_|refine aH c3 ?_|refine dz ?_|refine bh ?_|refine gJ ?_|refine aw ?_|refine bJ ?_|refine dT ?_)|refine aj ?_|refine ab ?_|refine aa fun C=>?_|refine ac ?_|refine ah ?_|refine al ?_)
  refine⟨N-1,k+1,omq,omq,?_⟩
  rw [e]
  (refine eL (fun j=>if j=9 then 16 else j) _ _ rfl rfl ?_ ?_<;>(repeat' (first|exact TmOk.nil|exact RwOk.nil|refine TmOk.cons ?_ ?_|refine RwOk.cons ?_ ?_|rfl|(refine rnV_id' rfl ?_;exact byc)|(refine cK ?_;first|rfl|omega|(rw [bB omq omq];omega))|(refine bg rfl ?_;exact byc)|exact dP rfl rfl|(refine rw_mid rqf rqf ?_ ?_<;>exact byc)|(refine rw_rn' rfl rfl ?_;simp;done))))
  exact fH (r:=⟨9,1,k+1,false,owL ((l.take k).map qm)++[.v (.string T)]⟩) rfl (by rw [fG];rfl) (by first|rfl|(simp [oS,bu,clo,bk,aM,bl,a8,aZ];done))
 ·have hk':¬k<l.length:=by simpa using hk1
  obtain rfl:k=l.length:=by omega
  rw [List.take_length]
  repeat' (first|(apply ay;first|refine ak ?_|refine ai ?_|refine aH cj ?_)|refine aj ?_|refine ab ?_|refine aa fun C=>?_|refine ac ?_|refine aE ?_)
  all_goals
   exact eo
theorem len_eq {l:List E}{m:Nat}(h:((l.length:Int)==(m:Int))=true):l.length=m:=by
 rw [beq_iff_eq] at h;omega
theorem nI {l:List E}(h:((l.length:Int)==2)=true):∃x y,l=[x,y]:=by
 have:=len_eq (m:=2) h
 match l,this with
 | [x,y],_=>exact⟨x,y,rfl⟩
theorem jT {l:List E}(h:((l.length:Int)==1)=true):∃x,l=[x]:=by
 have:=len_eq (m:=1) h
 match l,this with
 | [x],_=>exact⟨x,rfl⟩
theorem iB {l:List E}(h:((l.length:Int)==0)=true):l=[]:=by
 have:=len_eq (m:=0) h
 exact List.length_eq_zero_iff.1 this
theorem mB {k n:Int}{s:ByteArray}{l:List E}(h:fd k n s l.length=true):(k=1∧0≤n∧n≤2147483647)∨k=2∨k=3∨((k=4∨k=9)∧∃x,l=[x])∨((k=5∨k=7∨k=8∨k=12∨k=17)∧∃x,l=[x])∨(k=6∧∃x y,l=[x,y])∨(k=10∧∃x,l=[x])∨(k=18∧∃x y,l=[x,y])∨k=11∨k=13∨k=14∨k=15∨k=16:=by
 unfold fd at h
 by_cases k1:k=1
 ·rw [if_pos k1] at h
  simp only [inR,baq,dqt] at h
  left;exact⟨k1,omq,omq⟩
 rw [if_neg k1,baq] at h
 replace h:=h.2
 right
 by_cases k2:k=2
 ·exact .inl k2
 by_cases k3:k=3
 ·exact .inr (.inl k3)
 rw [if_neg k2,if_neg k3] at h
 by_cases k4:k=4∨k=9
 ·rw [if_pos k4,baq] at h
  exact .inr (.inr (.inl ⟨k4,jT h.2⟩))
 rw [if_neg k4] at h
 by_cases k5:k=5∨k=7∨k=8∨k=12∨k=17
 ·rw [if_pos k5,baq] at h
  exact .inr (.inr (.inr (.inl ⟨k5,jT h.2⟩)))
 rw [if_neg k5] at h
 by_cases k6:k=6
 ·rw [if_pos k6,baq] at h
  exact .inr (.inr (.inr (.inr (.inl ⟨k6,nI h.2⟩))))
 rw [if_neg k6] at h
 by_cases k10:k=10
 ·rw [if_pos k10,baq] at h
  exact .inr (.inr (.inr (.inr (.inr (.inl ⟨k10,jT h.1⟩)))))
 rw [if_neg k10] at h
 by_cases k18:k=18
 ·rw [if_pos k18,baq] at h
  exact .inr (.inr (.inr (.inr (.inr (.inr (.inl ⟨k18,nI h.1⟩))))))
 rw [if_neg k18] at h
 by_cases k11:k=11
 ·omega
 by_cases k13:k=13
 ·omega
 rw [if_neg k11,if_neg k13] at h
 by_cases k14:k=14∨k=15
 ·omega
 rw [if_neg k14] at h
 by_cases k16:k=16
 ·omega
 rw [if_neg k16] at h
 cases h
theorem nJ:∀(n:Nat) (e:E),e.Ty prog 26→e.sz<n→n≤1048577→okX e=true→Ctr prog 22 [.ag (acE e)] [] (.c (.v (.string (txE e)))) []
 | 0,_,_,h,_,_=>absurd h (Nat.not_lt_zero _)
 | n+1,e,he,hsz,hn,hok=>by
  obtain⟨k0,n0,s0,xA,xc,l,rfl,-,-,-,⟨hl,hk⟩,-⟩:=aW he
  simp only [E.sz,E.szL] at hsz
  have ek:okX (.agg [.int .i64 k0,.int .i64 n0,.str s0,.lst 4 26 xA xc l])=(l.all okX&&fd k0 n0 s0 l.length):=jH ey _
  rw [ek,baq,List.all_eq_true] at hok
  obtain⟨hall,hh⟩:=hok
  have hkid:∀x∈l,Ctr prog 22 [.ag (acE x)] [] (.c (.v (.string (txE x)))) []:=fun x hx=>by
   have:=E.szL_mem hx
   have h0:0<l.length:=List.length_pos_of_mem hx
   exact nJ n x (hl x hx) omq omq (hall x hx)
  have cl:=ziQ hl hk omq hkid
  have hj:=xK hl
  rw [lA]
  have key:∀x y,l=[x,y]→(k0=6∨k0=18)→Ctr prog 22 [.ag (acE (.agg [.int .i64 k0,.int .i64 n0,.str s0,.lst 4 26 xA xc l]))] [] (.c (.v (.string (oB k0 n0 s0 (l.map txE))))) []:=fun x y hxy hk0=>by
   subst hxy
   have cx:=hkid x (by simp)
   have cy:=hkid y (by simp)
   have tx:=hl x (by simp)
   have ty:=hl y (by simp)
   have zx:=jS tx
   have zy:=jS ty
   have hx0:[x,y][0]? = some x:=rfl
   have hy0:[x,y][1]? = some y:=rfl
   have e2:[x,y].map txE=[txE x,txE y]:=rfl
   simp only [E.szL,List.length_cons,List.length_nil] at hsz
   rw [e2]
   clear cl hj hkid hall hh
   generalize txE x=X at cx zx ⊢
   generalize txE y=Y at cy zy ⊢
   obtain⟨x0,x1,x2,xA',xc',xl,rfl,-⟩:=aW tx
   obtain⟨y0,y1,y2,yA,yc,yl,rfl,-⟩:=aW ty
   rcases hk0 with rfl|rfl
   ·refine az func22 rfl rfl ?_
    repeat' (first|(apply ay;first|refine ai ?_|refine bf ?_|refine aI ?_|refine ao ?_|refine cE ?_)|refine aj ?_|refine ab ?_|(apply da;first|(apply iu;refine aD ?_)|refine dZ ?_|refine bW ?_|refine dQ ?_|refine ei cx ?_|refine ei cy ?_|refine iY ?_|refine gD ?_)|refine aj ?_|refine ab ?_|refine aa fun C=>?_|refine av krq krq fun C=>?_|refine ac ?_|refine ah ?_|refine aq rfl ?_|refine ar rfl ?_)
    exact eo
   ·refine az func22 rfl rfl ?_
    repeat' (first|(apply ay;first|refine ai ?_|refine bf ?_|refine aI ?_|refine ao ?_|refine cE ?_)|refine aj ?_|refine ab ?_|(apply da;first|(apply iu;refine aD ?_)|refine dZ ?_|refine bW ?_|refine dQ ?_|refine ei cx ?_|refine ei cy ?_|refine iY ?_|refine gD ?_)|refine aj ?_|refine ab ?_|refine aa fun C=>?_|refine av krq krq fun C=>?_|refine ac ?_|refine ah ?_|refine al ?_|refine ar rfl ?_)
    exact eo
  rcases mB hh with ⟨rfl,h0,h1⟩|rfl|rfl|⟨rfl|rfl,-⟩|⟨rfl|rfl|rfl|rfl|rfl,-⟩|⟨rfl,x,y,hxy⟩|⟨rfl,-⟩|⟨rfl,x,y,hxy⟩|rfl|rfl|rfl|rfl|rfl
  all_goals first
   | (exact key x y hxy (.inl rfl))
   | (exact key x y hxy (.inr rfl))
   | skip
  ·have cd:=zg (n:=n0) omq omq
   refine az func22 rfl rfl ?_
   repeat' (first|(apply ay;first|refine ai ?_|refine bf ?_|refine aI ?_|refine aH cd ?_|refine ao ?_|refine cE ?_)|refine aj ?_|refine ab ?_|refine aa fun C=>?_|refine ac ?_|refine ah ?_|refine aq rfl ?_)
   exact eo
  all_goals
   clear key hkid hall hh
   refine az func22 rfl rfl ?_
   repeat' (first|(apply ay;first|refine ai ?_|refine bf ?_|refine aI ?_|refine aH cl ?_|refine ao ?_|refine dI ?_|refine cE ?_)|refine aj ?_|refine ab ?_|(apply da;first|(apply iu;refine aD ?_)|refine dZ ?_|refine bW ?_|refine ei cl ?_|refine gD ?_)|refine aj ?_|refine ab ?_|refine aa fun C=>?_|refine av krq krq fun C=>?_|refine ac ?_|refine ah ?_|refine aq rfl ?_|refine ar rfl ?_)
   exact eo
def Cq (b:ByteArray):Prop:=∀j,j<b.size→plB 47 (bAt b j)=true
theorem Cq.app {a b:ByteArray}(ha:Cq a)(hb:Cq b):Cq (a++b):=fun j hj=>by
 rw [ByteArray.size_append'] at hj
 by_cases h:j<a.size
 ·rw [fP h];exact ha j h
 ·rw [jG omq];exact hb _ omq
theorem Cq.nil:Cq ByteArray.empty:=fun j hj=>absurd hj (Nat.not_lt_zero j)
theorem Cq.one {c:UInt8}(h:plB 47 c.toNat=true):Cq ⟨#[c]⟩:=fun j hj=>by
 have:(⟨#[c]⟩:ByteArray).size=1:=rfl
 obtain rfl:j=0:=by omega
 exact h
theorem zt2 {c:Nat}(h:ma c=true):plB 47 c=true:=by
 simp only [ma,Bool.or_eq_true,baq,dqt,beq_iff_eq] at h
 simp only [plB,baq,dqt]
 omega
theorem brk_q {g:E→ByteArray}{x:E}(h:Cq (g x)):Cq (brk g x):=by
 unfold brk
 split
 ·exact ((Cq.one (by decide)).app h).app (Cq.one (by decide))
 ·exact h
theorem one_q {g:E→ByteArray}{x:E}(h:Cq (g x)):Cq (jb g x):=by
 unfold jb
 split
 ·exact ((Cq.one (by decide)).app h).app (Cq.one (by decide))
 ·exact h
theorem zu2 {g:E→ByteArray}{b:ByteArray}(hb:Cq b):∀{l:List E},(∀x∈l,Cq (g x))→Cq (dw g b l)
 | [],_=>Cq.nil
 | y :: r,h=>hb.app ((brk_q (h y (mcs ..))).app (zu2 hb fun x hx=>h x (mco _ hx)))
theorem zj8 {g:E→ByteArray}{b:ByteArray}(hb:Cq b):∀{l:List E},(∀x∈l,Cq (g x))→Cq (eK g b l)
 | [],_=>Cq.nil
 | y :: r,h=>(brk_q (h y (mcs ..))).app (zu2 hb fun x hx=>h x (mco _ hx))
theorem zb6 {g:E→ByteArray}{x:E}(h:1≤(g x).size):1≤(brk g x).size:=by
 unfold brk
 split
 ·rw [ByteArray.size_append']
  show 1≤_+1;omega
 ·exact h
theorem zc6 (f:Nat):∀e,bR f e≤60→Cq (aS f e)∧1≤(aS f e).size:=by
 induction f with
 | zero=>intro e h;simp [bR] at h
 | succ f ih =>
  intro e h
  unfold bR at h
  split at h
  ·rename_i hh
   have hd:=(qR hh).1
   have hk:=(jm h).2
   unfold aS
   rcases dN hd with ⟨k,q1,q2,q3⟩|⟨k,q1,q3⟩|⟨k,q1,q3⟩|⟨k,q1,q2,q3⟩|⟨k,q1,x,q2,q3⟩
   ·rw [if_pos k]
    exact⟨fun j hj=>by obtain rfl:j=0:=by omega
                       exact zt2 q2,omq⟩
   ·rw [k]
    have hq:Cq e.rs:=fun j hj=>by
     unfold ig at q1
     simp only [baq] at q1
     have:=q1.1
     rw [List.all_eq_true] at this
     have:=this j (List.mem_range.2 hj)
     unfold eX at this
     rw [baq] at this
     exact zt2 this.1
    refine⟨((Cq.one (by decide)).app hq).app (Cq.one (by decide)),?_⟩
    show 1≤(ByteArray.mk #[91]++e.rs++ByteArray.mk #[93]).size
    rw [ByteArray.size_append']
    show 1≤_+1;omega
   ·rcases k with k|k|k|k<;>rw [k]
    ·exact⟨Cq.one (by decide),nlr 1⟩
    ·refine⟨?_,by show 1≤2;omega⟩
     have:Cq (⟨#[40]⟩++⟨#[41]⟩):=(Cq.one (by decide)).app (Cq.one (by decide))
     rwa [show (⟨#[40]⟩++⟨#[41]⟩:ByteArray)=⟨#[40,41]⟩ from ByteArray.mk_append_mk [40] [41]] at this
    ·exact⟨Cq.one (by decide),nlr 1⟩
    ·exact⟨Cq.one (by decide),nlr 1⟩
   ·have key:∀b:ByteArray,Cq b→Cq (eK (aS f) b e.rl)∧1≤(eK (aS f) b e.rl).size:=fun b hb=>by
     refine⟨zj8 hb fun x hx=>(ih x (hk x hx)).1,?_⟩
     match hl:e.rl,q2 with
     | x :: r,_ =>
      show 1≤(brk (aS f) x++dw (aS f) b r).size
      have:=zb6 (g:=aS f) (ih x (hk x (by rw [hl];exact mcs))).2
      rw [ByteArray.size_append'];omega
    rcases k with k|k<;>rw [k]
    ·exact key _ Cq.nil
    ·exact key _ (Cq.one (by decide))
   ·have h3:=ih x (hk x (by rw [q2];exact mcs))
    rw [q2]
    rcases k with k|k|k<;>rw [k]
    ·exact⟨(one_q h3.1).app (Cq.one (by decide)),by show 1≤(jb (aS f) x++ByteArray.mk #[42]).size;rw [ByteArray.size_append'];show 1≤_+1;omega⟩
    ·exact⟨(one_q h3.1).app (Cq.one (by decide)),by show 1≤(jb (aS f) x++ByteArray.mk #[43]).size;rw [ByteArray.size_append'];show 1≤_+1;omega⟩
    ·exact⟨(one_q h3.1).app (Cq.one (by decide)),by show 1≤(jb (aS f) x++ByteArray.mk #[63]).size;rw [ByteArray.size_append'];show 1≤_+1;omega⟩
  ·omega
theorem oE {s:ByteArray}(h:ql s=true):bY 4 0 s=true:=by
 unfold ql sK at h
 simp only [baq,dqt] at h
 obtain⟨⟨⟨-,h1⟩,h2⟩,h3⟩:=h
 have h2':=h2
 rw [beq_iff_eq] at h2'
 have h4:=toList_inj h2'
 unfold kZ at h4
 rw [if_pos h1] at h4
 have h5:=zc6 6 (gE s).1 (by simpa [eO] using h1)
 rw [h4] at h5
 have h6:dE 47 s=true:=by
  simp only [dE,baq,dqt,kD]
  exact⟨h3,h5.1⟩
 simp [bY,h6,h5.2]
def mkP (m:ByteArray):Option T3:=some (5,0,m)
def nmP (w:ByteArray):Option T3:=some (2,0,w)
def rxP (s:ByteArray):Option T3:=some (4,0,s)
def jnP:List Pc→Pc
 | []=>[]
 | [x]=>x
 | x :: y :: r=>x++(mkP ⟨#[44]⟩ :: none :: jnP (y :: r))
def atP (ps:List Pc)(k:Nat):Pc:=ps.getD k []
def gf (k n:Int)(s:ByteArray)(ps:List Pc):Pc :=
 if k=1 then [some (1,n,ByteArray.empty)]
 else if k=2 then [some (3,0,s)]
 else if k=3 then [nmP s]
 else if k=4 then nmP s :: mkP ⟨#[91]⟩ :: (jnP ps++[mkP ⟨#[93]⟩])
 else if k=5 then mkP ⟨#[36]⟩ :: jnP ps
 else if k=6 then mkP ⟨#[40]⟩ :: (atP ps 0++(none :: mkP s :: none :: (atP ps 1++[mkP ⟨#[41]⟩])))
 else if k=7 then mkP ⟨#[33]⟩ :: jnP ps
 else if k=8 then mkP ⟨#[45]⟩ :: jnP ps
 else if k=9 then mkP ⟨#[40]⟩ :: (jnP ps++[none,nmP ⟨#[105,110]⟩,none,nmP s,mkP ⟨#[41]⟩])
 else if k=10 then mkP ⟨#[40]⟩ :: (jnP ps++[none,mkP ⟨#[126]⟩,none,rxP s,mkP ⟨#[41]⟩])
 else if k=11 then nmP s :: mkP ⟨#[40]⟩ :: (jnP ps++[mkP ⟨#[41]⟩])
 else if k=12 then nmP ⟨#[108,101,110,103,116,104]⟩ :: mkP ⟨#[40]⟩ :: (jnP ps++[mkP ⟨#[41]⟩])
 else if k=13 then nmP ⟨#[115,117,98,115,116,114]⟩ :: mkP ⟨#[40]⟩ :: (jnP ps++[mkP ⟨#[41]⟩])
 else if k=14 then [nmP ⟨#[110,114]⟩]
 else if k=15 then [nmP ⟨#[110,102]⟩]
 else if k=16 then nmP ⟨#[105,110,100,101,120]⟩ :: mkP ⟨#[40]⟩ :: (jnP ps++[mkP ⟨#[41]⟩])
 else if k=17 then nmP ⟨#[117,112,112,101,114]⟩ :: mkP ⟨#[40]⟩ :: (jnP ps++[mkP ⟨#[41]⟩])
 else nmP ⟨#[103,115,117,98]⟩ :: mkP ⟨#[40]⟩ :: (atP ps 0++(none :: mkP ⟨#[126]⟩ :: none :: rxP s :: mkP ⟨#[44]⟩ :: none :: (atP ps 1++[mkP ⟨#[41]⟩])))
def pcF:Nat→E→Pc
 | 0,_=>[]
 | f+1,e=>match e with
  | .agg [.int _ k,.int _ n,.str s,.lst _ _ _ _ l]=>gf k n s (l.map (pcF f))
  | _=>[]
def pcE (e:E):Pc:=pcF (e.sz+1) e
theorem xL:∀(n f:Nat) (e:E),e.sz<n→e.sz<f→pcF f e=pcE e
 | 0,_,_,h,_=>absurd h (Nat.not_lt_zero _)
 | n+1,0,_,_,h=>absurd h (Nat.not_lt_zero _)
 | n+1,f+1,e,h1,h2=>by
  have key:∀x∈dV e,pcF f x=pcF e.sz x:=fun x hx=>by
   have hs:=ey e x hx
   rw [xL n f x omq omq,xL n e.sz x omq hs]
  unfold pcE
  unfold pcF
  split
  ·rename_i k n' s T A c m l
   congr 1
   exact List.map_congr_left key
  ·rfl
theorem iU (i j:IntKind)(k n:Int)(s:ByteArray)(w:Nat)(T:TypeId)(A:Option Addr)(c:Nat)(l:List E):pcE (.agg [.int i k,.int j n,.str s,.lst w T A c l])=gf k n s (l.map pcE):=by
 show gf k n s (l.map (pcF (E.sz (.agg [.int i k,.int j n,.str s,.lst w T A c l]))))=_
 congr 1
 refine List.map_congr_left fun x hx=>?_
 exact xL (x.sz+1) _ x omq (ey _ x hx)
def clD (d:Option Nat):Prop:=∀x,d=some x→ldB x=false
def Wp (p:Pc):Prop:=(∃x l,p=x :: l∧bAt (pcT x) 0≠61)∧∀d,clD d→okP false p d false
theorem iC {x:Nat}(h:ldB x=false):clD (some x):=fun y hy=>by injection hy with hy;subst hy;exact h
theorem xM {p:Pc}(h:Wp p)(d:Option Nat):∃x,zt p d=some x∧x≠61:=by
 obtain⟨⟨x,l,rfl,h2⟩,-⟩:=h
 exact⟨_,rfl,h2⟩
theorem ku {c:Nat}{m:ByteArray}(hm:m.size=1)(hc:bAt m 0=c)(h:¬(c=60∨c=61∨c=33∨c=62∨c=38∨c=124))(d:Option Nat):wF (5,0,m) d=true:=by
 cases d with
 | none=>rfl
 | some x =>
  show i7 (5,0,m) x=true
  unfold i7
  rw [if_neg (show ¬(5:Int)=1 by decide),if_neg (show ¬(5:Int)=2 by decide),if_pos ⟨rfl,hm⟩]
  dsimp only
  rw [hc]
  have:n8 c x=false:=by
   simp only [n8]
   simp
   omega
  rw [this];rfl
theorem pM {w:ByteArray}{d:Option Nat}(h:clD d):wF (2,0,w) d=true:=by
 cases d with
 | none=>rfl
 | some x =>
  show i7 (2,0,w) x=true
  unfold i7
  rw [if_neg (show ¬(2:Int)=1 by decide),if_pos rfl,h x rfl];rfl
theorem stopI {n:Int}{d:Option Nat}(h:clD d):wF (1,n,ByteArray.empty) d=true:=by
 cases d with
 | none=>rfl
 | some x =>
  show i7 (1,n,ByteArray.empty) x=true
  unfold i7
  rw [if_pos rfl]
  have:=h x rfl
  simp only [ldB,Bool.or_eq_false_iff] at this
  rw [this.2];rfl
theorem gM {r:Bool}{m:ByteArray}(h:bY 5 0 m=true)(h2:r=false):uV r (5,0,m):=⟨h,fun h=>by dsimp only at h;omega,fun _ _=>h2⟩
theorem gN {r:Bool}{w:ByteArray}(h:d8 w=true):uV r (2,0,w):=⟨by simp [bY,h],fun h=>by dsimp only at h;omega,fun h=>by dsimp only at h;omega⟩
theorem pN:∀{ps:List Pc},(∀p∈ps,Wp p)→∀d,clD d→okP false (jnP ps) d false
 | [],_,d,_=>rfl
 | [x],h,d,hd=>(h x (mcs ..)).2 d hd
 | x :: y :: r,h,d,hd=>fV ((h x (mcs ..)).2 _ (iC (x:=44) rfl)) ⟨gM (by decide) rfl,ku (c:=44) rfl rfl omq _,pN (ps:=y :: r) (fun p hp=>h p (mco _ hp)) d hd⟩
theorem zk8 {ps:List Pc}(h:∀p∈ps,Wp p)(hne:ps≠[])(d:Option Nat):∃x,zt (jnP ps) d=some x∧x≠61:=by
 match ps,hne with
 | [x],_=>exact xM (h x (mcs ..)) d
 | x :: y :: r,_ =>
  show ∃z,zt (x++_) d=some z∧z≠61
  rw [sB]
  exact xM (h x (mcs ..)) _
theorem zl8:∀o∈mw,∃s,o=.str s∧bY 5 0 s=true∧oT 5 s=false:=by
 intro o ho
 unfold mw uy at ho
 obtain⟨s,hs,rfl⟩:=List.mem_map.1 ho
 refine⟨s,rfl,?_⟩
 clear ho
 revert s
 decide
theorem re {s:ByteArray}(h:mz mw s=true):bY 5 0 s=true∧oT 5 s=false:=by
 unfold mz at h
 rw [List.any_eq_true] at h
 obtain⟨o,ho,he⟩:=h
 obtain⟨t,rfl,h1,h2⟩:=zl8 o ho
 rw [bytes_beq,dqt] at he
 have he':s=t:=he
 subst he'
 exact⟨h1,h2⟩
theorem eP {x:Option T3}{l:Pc}(h0:bAt (pcT x) 0≠61)(h:∀d,clD d→okP false (x :: l) d false):Wp (x :: l):=⟨⟨x,l,rfl,h0⟩,h⟩
theorem nK {w:ByteArray}(h:d8 w=true):bAt (pcT (nmP w)) 0≠61:=by
 have hT:pcT (nmP w)=w:=by
  show tkT 2 0 w=w
  unfold tkT
  rw [if_pos (by simp [bY,h]),if_neg (by decide),if_neg (by decide),if_neg (by decide)]
 rw [hT]
 simp only [d8,ic,baq,dqt] at h
 omega
theorem mC {w:ByteArray}{ps:List Pc}(hw:d8 w=true)(h:∀p∈ps,Wp p):Wp (nmP w :: mkP ⟨#[40]⟩ :: (jnP ps++[mkP ⟨#[41]⟩])) :=
 eP (nK hw) fun d hd=>⟨gN hw,pM (iC (x:=40) rfl),gM (by decide) rfl,ku (c:=40) rfl rfl omq _,fV (pN h _ (iC (x:=41) rfl)) ⟨gM (by decide) rfl,ku (c:=41) rfl rfl omq _,rfl⟩⟩
theorem kv {s:ByteArray}(h:eu s=true):d8 s=true:=by
 unfold eu at h
 rw [baq] at h
 exact h.1
theorem zjQ {k n:Int}{s:ByteArray}{ps:List Pc}(h:∀p∈ps,Wp p)(hh:fd k n s ps.length=true):Wp (gf k n s ps):=by
 unfold fd at hh
 by_cases k1:k=1
 ·subst k1
  rw [if_pos rfl] at hh
  simp only [inR,baq,dqt] at hh
  have hn:0≤n∧n≤2147483647:=by omega
  have ho:bY 1 n ByteArray.empty=true:=by
   have:ByteArray.empty.size=0:=rfl
   simp [bY,hn,this]
  refine eP ?_ fun d hd=>⟨⟨ho,fun h=>by dsimp only at h;omega,fun h=>by dsimp only at h;omega⟩,stopI hd,rfl⟩
  have hT:pcT (some (1,n,ByteArray.empty))=iO n:=by
   show tkT 1 n ByteArray.empty=_
   unfold tkT
   rw [if_pos ho,if_pos rfl]
  rw [hT]
  have h2:=qO hn.1
  have h3:=qP hn.1
  simp only [kD,dqt] at h2
  have:=h2 0 omq
  simp only [cW,baq,dqt] at this
  omega
 rw [if_neg k1,baq] at hh
 replace hh:=hh.2
 have c41:clD (some 41):=iC rfl
 have c93:clD (some 93):=iC rfl
 have c32:clD (some 32):=iC rfl
 have g41:∀d r',r'=false→okP false [mkP ⟨#[41]⟩] d r':=fun d r' h=>⟨gM (by decide) rfl,ku (c:=41) rfl rfl omq _,by rw [h];rfl⟩
 by_cases k2:k=2
 ·subst k2
  rw [if_pos rfl,baq] at hh
  have ho:bY 3 0 s=true:=by simp [bY,hh.1]
  refine eP ?_ fun d hd=>⟨⟨ho,fun h=>by dsimp only at h;omega,fun h=>by dsimp only at h;omega⟩,?_,rfl⟩
  ·have hT:pcT (some (3,0,s))=(⟨#[39]⟩++s)++⟨#[39]⟩:=by
    show tkT 3 0 s=_
    unfold tkT
    rw [if_pos ho,if_neg (by decide),if_pos rfl]
   rw [hT,fP (by rw [ByteArray.size_append'];show 0<1+_;omega),fP (by show 0<1;omega)]
   decide
  ·cases d with
   | none=>rfl
   | some x=>rfl
 rw [if_neg k2] at hh
 by_cases k3:k=3
 ·subst k3
  rw [if_pos rfl,baq] at hh
  have hw:=kv hh.1
  exact eP (nK hw) fun d hd=>⟨gN hw,pM hd,rfl⟩
 rw [if_neg k3] at hh
 by_cases k4:k=4∨k=9
 ·rw [if_pos k4,baq] at hh
  have hw:=kv hh.1
  rcases k4 with rfl|rfl
  ·exact eP (nK hw) fun d hd=>⟨gN hw,pM (iC (x:=91) rfl),gM (by decide) rfl,ku (c:=91) rfl rfl omq _,fV (pN h _ c93) ⟨gM (by decide) rfl,ku (c:=93) rfl rfl omq _,rfl⟩⟩
  ·refine eP (by decide) fun d hd=>⟨gM (by decide) rfl,ku (c:=40) rfl rfl omq _,fV (pN h _ c32) ?_⟩
   exact⟨gN (by decide),pM c32,gN hw,pM c41,g41 d false rfl⟩
 rw [if_neg k4] at hh
 by_cases k5:k=5∨k=7∨k=8∨k=12∨k=17
 ·rw [if_pos k5,baq] at hh
  have hne:ps≠[]:=fun h0=>by subst h0;exact absurd hh.2 (by decide)
  rcases k5 with rfl|rfl|rfl|rfl|rfl
  ·exact eP (by decide) fun d hd=>⟨gM (by decide) rfl,ku (c:=36) rfl rfl omq _,pN h d hd⟩
  ·refine eP (by decide) fun d hd=>⟨gM (by decide) rfl,?_,pN h d hd⟩
   obtain⟨x,hx,hx61⟩:=zk8 h hne d
   rw [hx]
   show i7 (5,0,⟨#[33]⟩) x=true
   unfold i7
   rw [if_neg (by decide),if_neg (by decide),if_pos ⟨rfl,rfl⟩]
   have:n8 (bAt (⟨#[33]⟩:ByteArray) 0) x=false:=by
    show n8 33 x=false
    simp [n8,hx61]
   rw [this];rfl
  ·exact eP (by decide) fun d hd=>⟨gM (by decide) rfl,ku (c:=45) rfl rfl omq _,pN h d hd⟩
  ·exact mC (by decide) h
  ·exact mC (by decide) h
 rw [if_neg k5] at hh
 have at0:1≤ps.length→Wp (atP ps 0):=fun hl=>by
  unfold atP
  rw [List.getD_eq_getElem?_getD,List.getElem?_eq_getElem omq,Option.getD_some]
  exact h _ (List.getElem_mem _)
 have at1:2≤ps.length→Wp (atP ps 1):=fun hl=>by
  unfold atP
  rw [List.getD_eq_getElem?_getD,List.getElem?_eq_getElem omq,Option.getD_some]
  exact h _ (List.getElem_mem _)
 by_cases k6:k=6
 ·subst k6
  rw [if_pos rfl,baq,beq_iff_eq] at hh
  obtain⟨ho,ht⟩:=re hh.1
  have w0:=at0 omq
  have w1:=at1 omq
  refine eP (by decide) fun d hd=>⟨gM (by decide) rfl,ku (c:=40) rfl rfl omq _,fV (w0.2 _ c32) ?_⟩
  refine⟨gM ho rfl,wG ho,?_⟩
  rw [ht]
  exact fV (w1.2 _ c41) (g41 d false rfl)
 rw [if_neg k6] at hh
 by_cases k10:k=10
 ·subst k10
  rw [if_pos rfl,baq] at hh
  have hr:=oE hh.2
  refine eP (by decide) fun d hd=>⟨gM (by decide) rfl,ku (c:=40) rfl rfl omq _,fV (pN h _ c32) ?_⟩
  exact⟨gM (by decide) rfl,wG (t:=(5,0,⟨#[126]⟩)) (by decide),⟨hr,fun _=>by decide,fun h=>by dsimp only at h;omega⟩,by rfl,g41 d false rfl⟩
 rw [if_neg k10] at hh
 by_cases k18:k=18
 ·subst k18
  rw [if_pos rfl,baq,beq_iff_eq] at hh
  have hr:=oE hh.2
  have w0:=at0 omq
  have w1:=at1 omq
  refine eP (nK (by decide)) fun d hd=>⟨gN (by decide),pM (iC (x:=40) rfl),gM (by decide) rfl,ku (c:=40) rfl rfl omq _,fV (w0.2 _ c32) ?_⟩
  refine⟨gM (by decide) rfl,wG (t:=(5,0,⟨#[126]⟩)) (by decide),⟨hr,fun _=>by decide,fun h=>by dsimp only at h;omega⟩,by rfl,?_⟩
  exact⟨gM (by decide) rfl,ku (c:=44) rfl rfl omq _,fV (w1.2 _ c41) (g41 d false rfl)⟩
 rw [if_neg k18] at hh
 by_cases k11:k=11
 ·subst k11
  rw [if_pos rfl,baq] at hh
  exact mC (kv hh.1) h
 rw [if_neg k11] at hh
 by_cases k13:k=13
 ·subst k13
  exact mC (by decide) h
 rw [if_neg k13] at hh
 by_cases k14:k=14∨k=15
 ·rcases k14 with rfl|rfl
  ·exact eP (nK (by decide)) fun d hd=>⟨gN (by decide),pM hd,rfl⟩
  ·exact eP (nK (by decide)) fun d hd=>⟨gN (by decide),pM hd,rfl⟩
 rw [if_neg k14] at hh
 by_cases k16:k=16
 ·subst k16
  exact mC (by decide) h
 rw [if_neg k16] at hh
 cases hh
theorem il {m:ByteArray}(h:bY 5 0 m=true):pcT (mkP m)=m:=by
 show tkT 5 0 m=m
 unfold tkT
 rw [if_pos h,if_neg (by decide),if_neg (by decide),if_neg (by decide)]
theorem pO {w:ByteArray}(h:d8 w=true):pcT (nmP w)=w:=by
 show tkT 2 0 w=w
 unfold tkT
 rw [if_pos (by simp [bY,h]),if_neg (by decide),if_neg (by decide),if_neg (by decide)]
theorem pc_rx {s:ByteArray}(h:bY 4 0 s=true):pcT (rxP s)=(⟨#[47]⟩++s)++⟨#[47]⟩:=by
 show tkT 4 0 s=_
 unfold tkT
 rw [if_pos h,if_neg (by decide),if_neg (by decide),if_pos rfl]
theorem bZ (x:Option T3)(l:Pc):cB (x :: l)=pcT x++cB l:=rfl
theorem nL:cB []=ByteArray.empty:=rfl
theorem mD:pcT none=⟨#[32]⟩:=rfl
theorem pP (a b:List UInt8):(⟨(a++b).toArray⟩:ByteArray)=⟨a.toArray⟩++⟨b.toArray⟩:=(ByteArray.mk_append_mk a b).symm
theorem kw:∀ps:List Pc,cB (jnP ps)=joC (ps.map cB)
 | []=>rfl
 | [x]=>by rw [List.map_cons,List.map_nil,q9];rfl
 | x :: y :: r=>by
  have ih:=kw (y :: r)
  rw [List.map_cons] at ih
  rw [List.map_cons,List.map_cons,pJ,←ih]
  show cB (x++(mkP ⟨#[44]⟩ :: none :: jnP (y :: r)))=_
  rw [er,bZ,bZ,il (by decide),mD,show (⟨#[44,32]⟩:ByteArray)=⟨#[44]⟩++⟨#[32]⟩ from pP [44] [32]]
  simp only [ByteArray.append_assoc]
theorem oF (ps:List Pc)(k:Nat):cB (atP ps k)=atB (ps.map cB) k:=by
 unfold atP atB
 rw [List.getD_eq_getElem?_getD,List.getD_eq_getElem?_getD,List.getElem?_map]
 cases ps[k]? with
 | none=>rfl
 | some x=>rfl
theorem mE {w:ByteArray}{ps:List Pc}(hw:d8 w=true):cB (nmP w :: mkP ⟨#[40]⟩ :: (jnP ps++[mkP ⟨#[41]⟩]))=((w++⟨#[40]⟩)++joC (ps.map cB))++⟨#[41]⟩:=by
 rw [bZ,bZ,er,bZ,nL,pO hw,il (by decide),il (by decide),kw,ByteArray.append_empty]
 simp only [ByteArray.append_assoc]
theorem xN {m:ByteArray}{ps:List Pc}(h:bY 5 0 m=true):cB (mkP m :: jnP ps)=m++joC (ps.map cB):=by
 rw [bZ,il h,kw]
theorem uK {k n:Int}{s:ByteArray}{ps:List Pc}(hh:fd k n s ps.length=true):cB (gf k n s ps)=oB k n s (ps.map cB):=by
 unfold fd at hh
 by_cases k1:k=1
 ·subst k1
  rw [if_pos rfl] at hh
  simp only [inR,baq,dqt] at hh
  have hn:0≤n∧n≤2147483647:=by omega
  have ho:bY 1 n ByteArray.empty=true:=by
   have:ByteArray.empty.size=0:=rfl
   simp [bY,hn,this]
  show tkT 1 n ByteArray.empty++ByteArray.empty=iO n
  unfold tkT
  rw [if_pos ho,if_pos rfl,ByteArray.append_empty]
 rw [if_neg k1,baq] at hh
 replace hh:=hh.2
 by_cases k2:k=2
 ·subst k2
  rw [if_pos rfl,baq] at hh
  have ho:bY 3 0 s=true:=by simp [bY,hh.1]
  show tkT 3 0 s++ByteArray.empty=(⟨#[39]⟩++s)++⟨#[39]⟩
  unfold tkT
  rw [if_pos ho,if_neg (by decide),if_pos rfl,ByteArray.append_empty]
 rw [if_neg k2] at hh
 by_cases k3:k=3
 ·subst k3
  rw [if_pos rfl,baq] at hh
  show pcT (nmP s)++ByteArray.empty=s
  rw [pO (kv hh.1),ByteArray.append_empty]
 rw [if_neg k3] at hh
 by_cases k4:k=4∨k=9
 ·rw [if_pos k4,baq] at hh
  have hw:=kv hh.1
  rcases k4 with rfl|rfl
  ·show cB (nmP s :: mkP ⟨#[91]⟩ :: (jnP ps++[mkP ⟨#[93]⟩]))=((s++⟨#[91]⟩)++joC (ps.map cB))++⟨#[93]⟩
   rw [bZ,bZ,er,bZ,nL,pO hw,il (by decide),il (by decide),kw,ByteArray.append_empty]
   simp only [ByteArray.append_assoc]
  ·show cB (mkP ⟨#[40]⟩ :: (jnP ps++[none,nmP ⟨#[105,110]⟩,none,nmP s,mkP ⟨#[41]⟩]))=(((⟨#[40]⟩++joC (ps.map cB))++⟨#[32,105,110,32]⟩)++s)++⟨#[41]⟩
   rw [bZ,er,bZ,bZ,bZ,bZ,bZ,nL,pO hw,pO (by decide),il (by decide),il (by decide),mD,kw,ByteArray.append_empty,show (⟨#[32,105,110,32]⟩:ByteArray)=⟨#[32]⟩++⟨#[105,110,32]⟩ from pP [32] [105,110,32],show (⟨#[105,110,32]⟩:ByteArray)=⟨#[105,110]⟩++⟨#[32]⟩ from pP [105,110] [32]]
   simp only [ByteArray.append_assoc]
 rw [if_neg k4] at hh
 by_cases k5:k=5∨k=7∨k=8∨k=12∨k=17
 ·rcases k5 with rfl|rfl|rfl|rfl|rfl
  ·exact xN (by decide)
  ·exact xN (by decide)
  ·exact xN (by decide)
  ·show cB _=(⟨#[108,101,110,103,116,104,40]⟩++joC (ps.map cB))++⟨#[41]⟩
   rw [show (⟨#[108,101,110,103,116,104,40]⟩:ByteArray)=⟨#[108,101,110,103,116,104]⟩++⟨#[40]⟩ from pP [108,101,110,103,116,104] [40]]
   exact mE (by decide)
  ·show cB _=(⟨#[117,112,112,101,114,40]⟩++joC (ps.map cB))++⟨#[41]⟩
   rw [show (⟨#[117,112,112,101,114,40]⟩:ByteArray)=⟨#[117,112,112,101,114]⟩++⟨#[40]⟩ from pP [117,112,112,101,114] [40]]
   exact mE (by decide)
 rw [if_neg k5] at hh
 by_cases k6:k=6
 ·subst k6
  rw [if_pos rfl,baq,beq_iff_eq] at hh
  obtain⟨ho,ht⟩:=re hh.1
  show cB (mkP ⟨#[40]⟩ :: (atP ps 0++(none :: mkP s :: none :: (atP ps 1++[mkP ⟨#[41]⟩]))))=(((((⟨#[40]⟩++atB (ps.map cB) 0)++⟨#[32]⟩)++s)++⟨#[32]⟩)++atB (ps.map cB) 1)++⟨#[41]⟩
  rw [bZ,er,bZ,bZ,bZ,er,bZ,nL,il ho,il (by decide),il (by decide),mD,oF,oF,ByteArray.append_empty]
  simp only [ByteArray.append_assoc]
 rw [if_neg k6] at hh
 by_cases k10:k=10
 ·subst k10
  rw [if_pos rfl,baq] at hh
  have hr:=oE hh.2
  show cB (mkP ⟨#[40]⟩ :: (jnP ps++[none,mkP ⟨#[126]⟩,none,rxP s,mkP ⟨#[41]⟩]))=(((⟨#[40]⟩++joC (ps.map cB))++⟨#[32,126,32,47]⟩)++s)++⟨#[47,41]⟩
  rw [bZ,er,bZ,bZ,bZ,bZ,bZ,nL,pc_rx hr,il (by decide),il (by decide),il (by decide),mD,kw,ByteArray.append_empty,show (⟨#[32,126,32,47]⟩:ByteArray)=⟨#[32]⟩++⟨#[126,32,47]⟩ from pP [32] [126,32,47],show (⟨#[126,32,47]⟩:ByteArray)=⟨#[126]⟩++⟨#[32,47]⟩ from pP [126] [32,47],show (⟨#[32,47]⟩:ByteArray)=⟨#[32]⟩++⟨#[47]⟩ from pP [32] [47],show (⟨#[47,41]⟩:ByteArray)=⟨#[47]⟩++⟨#[41]⟩ from pP [47] [41]]
  simp only [ByteArray.append_assoc]
 rw [if_neg k10] at hh
 by_cases k18:k=18
 ·subst k18
  rw [if_pos rfl,baq] at hh
  have hr:=oE hh.2
  show cB (nmP ⟨#[103,115,117,98]⟩ :: mkP ⟨#[40]⟩ :: (atP ps 0++(none :: mkP ⟨#[126]⟩ :: none :: rxP s :: mkP ⟨#[44]⟩ :: none :: (atP ps 1++[mkP ⟨#[41]⟩]))))=(((((⟨#[103,115,117,98,40]⟩++atB (ps.map cB) 0)++⟨#[32,126,32,47]⟩)++s)++⟨#[47,44,32]⟩)++atB (ps.map cB) 1)++⟨#[41]⟩
  rw [bZ,bZ,er,bZ,bZ,bZ,bZ,bZ,bZ,er,bZ,nL,pc_rx hr,pO (by decide),il (by decide),il (by decide),il (by decide),il (by decide),mD,oF,oF,ByteArray.append_empty,show (⟨#[32,126,32,47]⟩:ByteArray)=⟨#[32]⟩++⟨#[126,32,47]⟩ from pP [32] [126,32,47],show (⟨#[126,32,47]⟩:ByteArray)=⟨#[126]⟩++⟨#[32,47]⟩ from pP [126] [32,47],show (⟨#[32,47]⟩:ByteArray)=⟨#[32]⟩++⟨#[47]⟩ from pP [32] [47],show (⟨#[47,44,32]⟩:ByteArray)=⟨#[47]⟩++⟨#[44,32]⟩ from pP [47] [44,32],show (⟨#[44,32]⟩:ByteArray)=⟨#[44]⟩++⟨#[32]⟩ from pP [44] [32],show (⟨#[103,115,117,98,40]⟩:ByteArray)=⟨#[103,115,117,98]⟩++⟨#[40]⟩ from pP [103,115,117,98] [40]]
  simp only [ByteArray.append_assoc]
 rw [if_neg k18] at hh
 by_cases k11:k=11
 ·subst k11
  rw [if_pos rfl,baq] at hh
  exact mE (kv hh.1)
 rw [if_neg k11] at hh
 by_cases k13:k=13
 ·subst k13
  show cB _=(⟨#[115,117,98,115,116,114,40]⟩++joC (ps.map cB))++⟨#[41]⟩
  rw [show (⟨#[115,117,98,115,116,114,40]⟩:ByteArray)=⟨#[115,117,98,115,116,114]⟩++⟨#[40]⟩ from pP [115,117,98,115,116,114] [40]]
  exact mE (by decide)
 rw [if_neg k13] at hh
 by_cases k14:k=14∨k=15
 ·rcases k14 with rfl|rfl
  ·show pcT (nmP ⟨#[110,114]⟩)++ByteArray.empty=⟨#[110,114]⟩
   rw [pO (by decide),ByteArray.append_empty]
  ·show pcT (nmP ⟨#[110,102]⟩)++ByteArray.empty=⟨#[110,102]⟩
   rw [pO (by decide),ByteArray.append_empty]
 rw [if_neg k14] at hh
 by_cases k16:k=16
 ·subst k16
  show cB _=(⟨#[105,110,100,101,120,40]⟩++joC (ps.map cB))++⟨#[41]⟩
  rw [show (⟨#[105,110,100,101,120,40]⟩:ByteArray)=⟨#[105,110,100,101,120]⟩++⟨#[40]⟩ from pP [105,110,100,101,120] [40]]
  exact mE (by decide)
 rw [if_neg k16] at hh
 cases hh
theorem lB {e:E}(h:okX e=true):(∀x∈dV e,okX x=true)∧oA e=true:=by
 unfold okX at h
 rw [jH ey,baq,List.all_eq_true] at h
 exact h
theorem zv2:∀(n:Nat) (e:E),e.sz<n→okX e=true→Wp (pcE e)∧cB (pcE e)=txE e
 | 0,_,h,_=>absurd h (Nat.not_lt_zero _)
 | n+1,e,h,hok=>by
  obtain⟨h1,h2⟩:=lB hok
  unfold oA at h2
  split at h2
  ·rename_i i k j m s w T A c l
   rw [iU,lA]
   have hk:∀x∈l,Wp (pcE x)∧cB (pcE x)=txE x:=fun x hx=>zv2 n x (by have:=ey (.agg [.int i k,.int j m,.str s,.lst w T A c l]) x hx;omega) (h1 x hx)
   have hl:fd k m s (l.map pcE).length=true:=by rw [List.length_map];exact h2
   refine⟨zjQ (fun p hp=>?_) hl,?_⟩
   ·obtain⟨x,hx,rfl⟩:=List.mem_map.1 hp
    exact (hk x hx).1
   ·rw [uK hl,List.map_map]
    congr 1
    exact List.map_congr_left fun x hx=>(hk x hx).2
  ·cases h2
theorem mF {b:Nat}{c:E→Nat}:∀(l:List E) (n:Nat),gpS b c l n≤b→∀x∈l,c x≤b
 | [],_,_,x,hx=>by cases hx
 | y :: r,n,h,x,hx=>by
  unfold gpS at h
  split at h
  ·have h1:=sD (b:=b) (c:=c) r (n+c y)
   rcases List.mem_cons.1 hx with rfl|hx
   ·omega
   ·exact mF r _ h x hx
  ·omega
theorem lC {e:E}(h:ff e=true):okX e=true:=by
 unfold ff at h
 rw [baq] at h
 exact h.2
def tkE (e:E):List T3:=bS (pcE e)
def lnP:List Pc→Nat
 | []=>0
 | p :: r=>(bS p).length+1+lnP r
theorem zw2:∀ps:List Pc,(bS (jnP ps)).length≤lnP ps
 | []=>Nat.zero_le _
 | [x]=>by show (bS x).length≤(bS x).length+1+0;omega
 | x :: y :: r=>by
  have ih:=zw2 (y :: r)
  show (bS (x++(mkP ⟨#[44]⟩ :: none :: jnP (y :: r)))).length≤_
  rw [di,lla]
  show _+((bS (jnP (y :: r))).length+1)≤(bS x).length+1+lnP (y :: r)
  omega
theorem zm8:∀ps:List Pc,(bS (atP ps 0)).length+(bS (atP ps 1)).length≤lnP ps
 | []=>Nat.zero_le _
 | [x]=>by show (bS x).length+0≤(bS x).length+1+0;omega
 | x :: y :: r=>by show (bS x).length+(bS y).length≤(bS x).length+1+((bS y).length+1+lnP r);omega
theorem zd6 {c:Prop}[Decidable c]{a b:Pc}{n:Nat}(ha:(bS a).length≤n)(hb:(bS b).length≤n):(bS (if c then a else b)).length≤n:=by split<;>assumption
theorem ze6 (t:T3)(l:Pc):(bS (some t :: l)).length=(bS l).length+1:=rfl
theorem zf6 (l:Pc):(bS (none :: l)).length=(bS l).length:=rfl
theorem zn8:(bS []).length=0:=rfl
theorem xO (k n:Int)(s:ByteArray)(ps:List Pc):(bS (gf k n s ps)).length≤8+lnP ps:=by
 have h1:=zw2 ps
 have h2:=zm8 ps
 have ha:∀a b:Pc,(bS (a++b)).length=(bS a).length+(bS b).length:=fun a b=>by rw [di,lla]
 unfold gf mkP nmP rxP
 repeat' refine zd6 ?_ ?_
 all_goals
  simp only [ze6,zf6,zn8,ha]
  omega
def sumC (c:E→Nat):List E→Nat
 | []=>0
 | x :: r=>c x+sumC c r
theorem rf {b:Nat}{c:E→Nat}:∀(l:List E) (n:Nat),gpS b c l n≤b→gpS b c l n=n+sumC c l
 | [],n,_=>rfl
 | x :: r,n,h=>by
  unfold gpS at h ⊢
  split at h
  ·rename_i hn
   rw [if_pos hn,rf r _ h]
   simp only [sumC];omega
  ·omega
theorem zx2:∀(f:Nat) (e:E),lw 100 dV f e≤100→(tkE e).length+1≤9*lw 100 dV f e
 | 0,e,h=>absurd h (by show ¬100+1≤100;omega)
 | f+1,e,h=>by
  have h1:gpS 100 (lw 100 dV f) (dV e) 1≤100:=h
  have h2:=rf _ _ h1
  show (tkE e).length+1≤9*gpS 100 (lw 100 dV f) (dV e) 1
  rw [h2]
  have hm:=mF _ _ h1
  have key:∀r:List E,(∀x∈r,x∈dV e)→lnP (r.map pcE)≤9*sumC (lw 100 dV f) r:=fun r=>by
   induction r with
   | nil=>intro _;exact Nat.zero_le _
   | cons x r ih =>
    intro hr
    have i1:=ih fun y hy=>hr y (mco _ hy)
    have i2:=zx2 f x (hm x (hr x (mcs ..)))
    unfold tkE at i2
    simp only [List.map_cons,lnP,sumC]
    omega
  have hz:∀l:Pc,l=[]→(bS l).length=0:=fun l hl=>by subst hl;rfl
  unfold tkE
  by_cases hs:∃i k j m s w T A c l,e=.agg [.int i k,.int j m,.str s,.lst w T A c l]
  ·obtain⟨i,k,j,m,s,w,T,A,c,l,rfl⟩:=hs
   rw [iU]
   have h3:=xO k m s (l.map pcE)
   have h4:=key l fun _ h=>h
   have h5:dV (.agg [.int i k,.int j m,.str s,.lst w T A c l])=l:=rfl
   rw [h5]
   omega
  ·have h0:pcE e=[]:=by
    unfold pcE pcF
    split
    ·rename_i i k j m s w T A c l
     exact absurd ⟨i,k,j,m,s,w,T,A,c,l,rfl⟩ hs
    ·rfl
   rw [h0]
   show 0+1≤_
   omega
theorem zy2 {e:E}(h:ff e=true):i6 (txE e)=((tkE e).map T3.E,-1)∧(tkE e).length≤900:=by
 have hok:=lC h
 unfold ff at h
 rw [baq,dqt] at h
 have h1:=zx2 10 e h.1
 obtain⟨h2,h3⟩:=zv2 (e.sz+1) e omq hok
 have h4:lw 100 dV 10 e≤100:=h.1
 have h5:=h2.2 none fun x hx=>by cases hx
 refine⟨?_,omq⟩
 rw [←h3]
 exact zc5 h5 (by unfold tkE at h1;omega)
end Go.Proofs.YtomolhbkdhjofaaGreatDoor
