/- T -/
import Derived.Test.YtomolhbkdhjofaaGreatDoorExRAI
set_option maxHeartbeats 0
set_option maxRecDepth 100000
namespace Go.Proofs.YtomolhbkdhjofaaGreatDoor
open Go.RowKit Go.Proofs.Tryz
def bnT:List ByteArray:=[⟨#[32]⟩,⟨#[40]⟩,⟨#[41]⟩,⟨#[120]⟩,⟨#[59]⟩,⟨#[35,32,110,111,10]⟩,⟨#[45]⟩,⟨#[123]⟩,⟨#[39]⟩,⟨#[61]⟩,⟨#[47]⟩]
theorem zh9:∀s∈bnT,s.size≤7:=by decide
theorem lt6 {k:Nat}(h:(k:Int)<6):k=0∨k=1∨(2≤k∧k<6):=by omega
theorem yv {cs:List AC}(hc:Curs cs){s:ByteArray}(hs:s.size≤100000):∃(z:ByteArray) (cs':List AC),Curs cs'∧z.size≤200010∧Ctr prog 36 [.c (.pt 0 0),.c (.v (.string s))] [cs] (.c (.v (.string z))) [cs']:=by
 have cc:=bD hc
 obtain⟨k,cs1,h1,hk,c1⟩:=eQ hc 6 omq
 have cc1:=bD h1
 rcases lt6 hk with rfl|rfl|hk2
 ·obtain⟨j,cs2,h2,hj,c2⟩:=eQ h1 ((s.size:Int)+1) omq
  have cc2:=bD h2
  have hj':j≤s.size:=by omega
  obtain⟨z,cs3,h3,hz,c3⟩:=kx h2 bnT (by simp [bnT])
  have cc3:=bD h3
  have hsz:=zh9 z hz
  have e1:=bO (s:=s) (a:=0) (b:=j) (Nat.zero_le _) hj'
  have e2:=bO (s:=s) (a:=j) (b:=s.size) hj' (nlr _)
  refine⟨(bz s 0 j++z)++bz s j s.size,cs3,h3,by rw [ByteArray.size_append',ByteArray.size_append'];omega,az func36 rfl rfl ?_⟩
  repeat' (first|(apply ay;first|refine ak ?_|refine ai ?_|refine aF 0 (c1) ?_ (hl:=bF rqf cc)|refine aF 0 (c2) ?_ (hl:=bF rqf cc1)|refine a7 ?_|refine ao ?_|refine aw ?_)|refine aj ?_|refine ab ?_|(apply da;first|(apply dC;refine aD ?_)|(apply iu;refine aD ?_)|refine o_cdz 0 [19] (c3) ?_ (hl:=bF rqf cc2)|refine gD ?_|refine nu ?_|refine gZ ?_|refine gC ?_)|refine aj ?_|refine ab ?_|refine aa fun C=>?_|refine av krq krq fun C=>?_|refine ac ?_|refine ah ?_|refine aq rfl ?_)
  refine am ?_
  exact dO rfl aJ rfl cc3 (dx h3 hc) ⟨rfl,rfl⟩
 ·obtain⟨j,cs2,h2,hj,c2⟩:=eQ h1 ((s.size:Int)+1) omq
  have cc2:=bD h2
  have hj':j≤s.size:=by omega
  have e1:=bO (s:=s) (a:=0) (b:=j) (Nat.zero_le _) hj'
  refine⟨bz s 0 j,cs2,h2,omq,az func36 rfl rfl ?_⟩
  repeat' (first|(apply ay;first|refine ak ?_|refine ai ?_|refine aF 0 (c1) ?_ (hl:=bF rqf cc)|refine aF 0 (c2) ?_ (hl:=bF rqf cc1)|refine a7 ?_|refine ao ?_|refine aw ?_|refine e8 ?_)|refine aj ?_|refine ab ?_|refine aa fun C=>?_|refine ac ?_|refine ah ?_|refine aq rfl ?_|refine ar rfl ?_)
  refine am ?_
  exact dO rfl aJ rfl cc2 (dx h2 hc) ⟨rfl,rfl⟩
 ·refine⟨s,cs1,h1,omq,az func36 rfl rfl ?_⟩
  have hne:∀j:Nat,j<2→(((k:Nat):Int)==((j:Nat):Int))=false:=fun j hj=>by
   rw [Bool.eq_false_iff]
   intro h
   have:=eq_of_beq h
   omega
  repeat' (first|(apply ay;first|refine ak ?_|refine ai ?_|refine aF 0 (c1) ?_ (hl:=bF rqf cc)|refine ao ?_)|refine aj ?_|refine ab ?_|refine aa fun C=>?_|refine ac ?_|refine ah ?_)
  refine ae rqf (fun hC=>by exfalso;rw [show ((k:Int)==0)=false from hne 0 omq] at hC;cases hC) fun hC=>?_
  repeat' (first|(apply ay;first|refine ai ?_|refine ao ?_)|refine aj ?_|refine ab ?_|refine aa fun C=>?_|refine ac ?_)
  refine ae rqf (fun hC=>by exfalso;rw [show ((k:Int)==1)=false from hne 1 omq] at hC;cases hC) fun hC=>?_
  repeat' (first|(apply ay;first|refine ak ?_|refine ai ?_)|refine aj ?_|refine ab ?_|refine aa fun C=>?_|refine ac ?_|refine al ?_)
  refine am ?_
  exact dO rfl aJ rfl cc1 (dx h1 hc) ⟨rfl,rfl⟩
theorem mU {e:E}(he:e.Ty prog 26)(hsz:e.sz≤1048576):Ctr prog 37 [.ag (acE e)] [] (.c (.v (.string (if ff e=true then txE e else ByteArray.empty)))) []:=by
 have c1:=kQ he hsz
 cases hb:ff e with
 | true =>
  rw [if_pos rfl]
  have c2:=tA (e.sz+1) e he omq omq (lC hb)
  rw [hb] at c1
  generalize txE e=T at *
  obtain⟨k0,n0,s0,xA,xc,l,rfl,-⟩:=aW he
  refine az func37 rfl rfl ?_
  repeat' (first|(apply ay;first|refine ai ?_|refine bM ?_|refine aH c1 ?_|refine aH c2 ?_|refine bI ?_|refine cE ?_)|refine aj ?_|refine ab ?_|refine aa fun C=>?_|refine ac ?_|refine al ?_|refine ar rfl ?_)
  exact eo
 | false =>
  rw [if_neg (by simp)]
  rw [hb] at c1
  obtain⟨k0,n0,s0,xA,xc,l,rfl,-⟩:=aW he
  refine az func37 rfl rfl ?_
  repeat' (first|(apply ay;first|refine ai ?_|refine bM ?_|refine aH c1 ?_|refine bI ?_|refine cE ?_)|refine aj ?_|refine ab ?_|refine aa fun C=>?_|refine ac ?_|refine aq rfl ?_)
  exact eo
def pxT:List ByteArray:=[⟨#[]⟩,⟨#[49]⟩,⟨#[40,49,41]⟩,⟨#[40,49,43,50,41]⟩,⟨#[40,97,32,126,32,47,98,47,41]⟩,⟨#[40,97,32,126,32,98,41]⟩,⟨#[40,120,32,105,110,32,116,41]⟩,⟨#[45,33,36,110,102]⟩,⟨#[102,40,41]⟩,⟨#[102,40,49,44,41]⟩,⟨#[108,101,110,103,116,104,40,41]⟩,⟨#[103,115,117,98,40,36,48,32,126,32,47,97,47,44,32,39,98,39,41]⟩,⟨#[40,49,32,61,32,50,41]⟩,⟨#[116,91,120,93]⟩,⟨#[40,120,32,47,32,50,41]⟩]
theorem zi9:∀s∈pxT,s.size≤30:=by decide
theorem DrawParseExpr_c {bs:List UInt8}(hl:bs.length≤1048576):∃z:ByteArray,z.size≤1048576∧Ctr prog 17 [.c (.ro bs.length 1 (acL (bE8 bs)))] [] (.c (.v (.string z))) []:=by
 obtain⟨h,hnew⟩:=zh1 bs
 have hc:=rH (h:=h) hl
 have cc:=bD hc
 obtain⟨b,cs1,h1,c1⟩:=tl hc 6 omq
 have cc1:=bD h1
 cases b with
 | true =>
  obtain⟨z,cs2,h2,hz,c2⟩:=kx h1 pxT (by simp [pxT])
  have cc2:=bD h2
  have hsz:=zi9 z hz
  refine⟨z,omq,az func17 rfl rfl ?_⟩
  repeat' (first|(apply ay;first|refine ak ?_|refine ai ?_)|refine aj ?_|refine ab ?_|refine aa fun C=>?_|refine ac ?_)
  refine n_new hnew ?_
  repeat' (first|(apply ay;first|refine ak ?_|refine ai ?_|refine aF 5 (c1) ?_ (hl:=bF rqf cc)|refine fD 5 [9] (c2) ?_ (hl:=bF rqf cc1)|refine dT ?_)|refine aj ?_|refine ab ?_|refine aa fun C=>?_|refine ac ?_|refine aq rfl ?_)
  refine am ?_
  exact bA rfl aJ ⟨rfl,rfl⟩
 | false =>
  obtain⟨e,cs2,h2,hf,hz,c2⟩:=tz 3 omq cs1 h1
  have hz:e.sz≤800:=hz
  have cc2:=bD h2
  have c3:=mU hf.ty.1 omq
  have htx:=jS hf.ty.1
  have hT:(if ff e=true then txE e else ByteArray.empty).size≤100000:=by
   split
   ·omega
   ·decide
  generalize (if ff e=true then txE e else ByteArray.empty)=T at *
  obtain⟨z,cs3,h3,hsz,c4⟩:=yv h2 hT
  have cc3:=bD h3
  refine⟨z,omq,az func17 rfl rfl ?_⟩
  cases hf with
  | mk m1 m2 m3 m4 _ _ _ _ =>
  repeat' (first|(apply ay;first|refine ak ?_|refine ai ?_)|refine aj ?_|refine ab ?_|refine aa fun C=>?_|refine ac ?_)
  refine n_new hnew ?_
  repeat' (first|(apply ay;first|refine ak ?_|refine ai ?_|refine aF 5 (c1) ?_ (hl:=bF rqf cc)|refine aF 5 (c2) ?_ (hl:=bF rqf cc1)|refine aH c3 ?_|refine aF 5 (c4) ?_ (hl:=bF rqf cc2))|refine aj ?_|refine ab ?_|refine aa fun C=>?_|refine ac ?_|refine al ?_|refine ar rfl ?_)
  refine am ?_
  exact bA rfl aJ ⟨rfl,rfl⟩
end Go.Proofs.YtomolhbkdhjofaaGreatDoor
-- MVP
namespace Go.Proofs.YtomolhbkdhjofaaGreatDoor
open Go.RowKit Go.Proofs.Tryz
theorem big_c {n:Nat}{l:List AC}(hn:n≤9223372036854775807):Ctr prog 6 [.c (.ro n 1 l)] [] (.c (.v (.bool (decide (1048576<(n:Int)))))) []:=by
 refine az func6 rfl rfl ?_
 repeat' (first|(apply ay;first|refine ak ?_|refine ai ?_|refine bC ?_|refine aX ?_)|refine aj ?_|refine ab ?_|refine aa fun C=>?_|refine ac ?_)
 refine am ?_;refine bA rfl aJ ⟨?_,rfl⟩
 rfl
end Go.Proofs.YtomolhbkdhjofaaGreatDoor
namespace Go.Proofs.YtomolhbkdhjofaaGreatDoor
open Go.RowKit Go.Proofs.Tryz
theorem zd7 {l:List T3}:∀e∈l.map T3.E,e.enc.length=3:=fun e he=>by obtain⟨t,-,rfl⟩:=List.mem_map.1 he;rfl
section
variable {ops:Array Oper}{Q:Exit→Act→World→Prop}{C:Ctx}{H:List (Nat×Oper×Inf)}{i:Nat}{r:List Nat}{dr:Bool}
variable {tm:Nat→AV}{hp:Nat→Option Row}{gn L:Nat}{us:List Nat}
theorem zj1 {t:Nat}{gd:Option (Nat×Bool)}{ps:String}{af:Array Edge}{ty ty':TypeId}{xo yo:Operand}{a0 a1:Int}{a2:ByteArray}(h:Walk prog ops Q C dr (bK dr (i,(⟨some t,.binOp .neq 63 xo yo ty',ty,ps,af,gd⟩:Oper),⟨fpO (AS.ev ⟨tm,hp,gn,us,L⟩) (⟨some t,.binOp .neq 63 xo yo ty',ty,ps,af,gd⟩:Oper),[],[],.c (.v (.bool false))⟩) H) r ⟨upd tm t (.c (.v (.bool false))),hp,gn,us,L⟩)
 (ht:Nat.blt t L=true:=by exact rfl) (hg:gw ops tm (⟨some t,.binOp .neq 63 xo yo ty',ty,ps,af,gd⟩:Oper)=some true:=by exact rfl) (hx:AS.ev ⟨tm,hp,gn,us,L⟩ xo=.ag [.v (.int .i64 a0),.v (.int .i64 a1),.v (.string a2)]:=by exact rfl) (hy:AS.ev ⟨tm,hp,gn,us,L⟩ yo=.ag [.v (.int .i64 a0),.v (.int .i64 a1),.v (.string a2)]:=by exact rfl)
 (hc:chk dr ops i (⟨some t,.binOp .neq 63 xo yo ty',ty,ps,af,gd⟩:Oper) ⟨fpO (AS.ev ⟨tm,hp,gn,us,L⟩) (⟨some t,.binOp .neq 63 xo yo ty',ty,ps,af,gd⟩:Oper),[],[],.c (.v (.bool false))⟩ H=true:=by first|(with_reducible exact bv)|kernel_rfl):WalkO prog ops Q C dr H i (⟨some t,.binOp .neq 63 xo yo ty',ty,ps,af,gd⟩:Oper) r ⟨tm,hp,gn,us,L⟩ :=
 ⟨fun hop=>w_eqS (xs:=[.int .i64 a0,.int .i64 a1,.string a2]) (ys:=[.int .i64 a0,.int .i64 a1,.string a2]) (b:=true) (q:=false) hop rfl rfl ht hg krq (by rw [hx];rfl) (by rw [hy];rfl) (fun w=>by rw [l9];simp) (.inr ⟨rfl,rfl⟩) hc h⟩
end
theorem qf {l:List T3}(hl:l.length≤1048576):Ctr prog 19 [.c (.ro (l.map T3.E).length 3 (acL (l.map T3.E))),.c (.ro (l.map T3.E).length 3 (acL (l.map T3.E)))] [] (.c (.v (.bool true))) []:=by
 have hk:=zd7 (l:=l)
 have hll:(l.map T3.E).length=l.length:=List.length_map ..
 refine az func19 rfl rfl ?_
 repeat' (first|(apply ay;first|refine ak ?_|refine ai ?_|refine bC ?_|refine aN ?_)|refine aj ?_|refine ab ?_|refine aa fun C=>?_|refine ac ?_)
 refine ae rqf (fun hC=>by exfalso;simp at hC) fun hC=>?_
 repeat' (first|(apply ay;refine ai ?_)|refine aj ?_|refine ab ?_|refine aa fun C=>?_|refine ac ?_|refine ah ?_|refine al ?_)
 refine aY (fun k:Nat=>⟨ft [(0,.c (.ro (l.map T3.E).length 3 (acL (l.map T3.E)))),(1,.c (.ro (l.map T3.E).length 3 (acL (l.map T3.E)))),(5,.c (.v (.int .i64 (k:Int))))],eW [],0,[],26⟩)
  (fun N k=>k+N=l.length) l.length 0 omq ?_ ?_
 ·(refine aL _ _ rfl rfl ?_ ?_<;>exact tdy0)
 rintro N k hN
 try dsimp only
 repeat' (first|(apply ay;first|refine ak ?_|refine bC ?_|refine aA ?_)|refine aj ?_|refine ab ?_|refine aa fun C=>?_|refine ac ?_)
 refine ae rqf (fun h1=>?_) fun h1=>?_
 ·have hk':k<l.length:=by simpa using h1
  obtain⟨t,hx⟩:∃x,l[k]? = some x:=⟨_,List.getElem?_eq_getElem hk'⟩
  obtain⟨t1,t2,t3⟩:=t
  have hxe:(l.map T3.E)[k]? = some (E.agg [.int .i64 t1,.int .i64 t2,.str t3]):=by rw [List.getElem?_map,hx];rfl
  repeat' (first|(apply da;refine zj1 ?_)|(apply ay;first|refine ak ?_|refine ai ?_|refine aw ?_)|refine aj ?_|refine ab ?_|(apply da;first|(apply dC;refine aD ?_)|refine dQ ?_|refine iY ?_)|refine aj ?_|refine ab ?_|refine aa fun C=>?_|refine av krq krq fun C=>?_|refine ac ?_|refine ah ?_|refine al ?_|refine ar rfl ?_)
  refine⟨N-1,k+1,omq,omq,?_⟩
  (refine aL _ _ rfl rfl ?_ ?_<;>exact tdy0)
 ·repeat' (first|(apply ay;refine ai ?_)|refine aj ?_|refine ab ?_|refine aa fun C=>?_|refine ac ?_|refine aE ?_)
  exact eo
theorem oR {bs:List UInt8}(hsz:bs.length≤9223372036854775807):Ctr prog 5 [.c (.ro bs.length 1 (acL (bE8 bs)))] [] (.c (.v (.bool true))) []:=by
 have cb:=big_c (l:=acL (bE8 bs)) hsz
 by_cases hbig:1048576<(bs.length:Int)
 ·rw [decide_eq_true hbig] at cb
  refine az func5 rfl rfl ?_
  repeat' (first|(apply ay;first|refine ak ?_|refine ai ?_|refine aH cb ?_)|refine aj ?_|refine ab ?_|refine aa fun C=>?_|refine ac ?_|refine aq rfl ?_)
  refine am ?_;refine bA rfl aJ ⟨?_,rfl⟩
  rfl
 rw [decide_eq_false hbig] at cb
 obtain⟨s,hs,cD⟩:=DrawParseExpr_c (bs:=bs) omq
 have c1:=mS hs
 have c2:=mT hs
 cases hp:pxI s with
 | false =>
  have he:pxE s=zE:=by unfold pxE;rw [hp];rfl
  rw [hp,he] at c1 c2
  unfold zE at c1 c2
  refine az func5 rfl rfl ?_
  repeat' (first|(apply ay;refine n_caG cD ?_)|(apply ay;first|(refine aK ?_ ?_<;>intro hG<;>(try cases hG))|refine ak ?_|refine cI (v:=.tu _) ?_|refine ai ?_|refine bf ?_|refine aI ?_|refine aH cb ?_|refine db c1 ?_|refine db c2 ?_|refine bh ?_|refine ao ?_|refine eM ?_|refine eH ?_|refine bI ?_|refine aB ?_|refine b9 ?_|refine dA (v:=.ag _) ?_|refine bJ ?_)|refine aj ?_|refine ab ?_|refine aa fun C=>?_|refine ac ?_|refine al ?_|refine aq rfl ?_|refine ar rfl ?_)
  refine am ?_;refine bA rfl aJ ⟨?_,rfl⟩
  rfl
 | true =>
  have hI:=(rG s).1 hp
  obtain⟨a1,a2,a3,a4,a5⟩:=hI
  have he:pxE s=(rdI s).1:=by unfold pxE;rw [hp];rfl
  rw [hp,he] at c1 c2
  have hf:=(zi3 s).fine
  obtain⟨z1,z2⟩:=mR hf a2
  have c3:=iH hs
  have c4:=iI hf.ty.1 omq a2
  have c5:=iH z2
  have c6:=iA hf.ty.1 omq
  rw [a2] at c6
  rw [a5,a3] at c5
  rw [(dj s).2] at c3 c5
  have hl:=hZ s
  have c7:=qf (l:=gT s) omq
  rw [a4] at c3
  clear a1 a2 a3 a4 a5 z1 z2 he hp cb
  have cb:=big_c (l:=acL (bE8 bs)) hsz
  rw [decide_eq_false hbig] at cb
  generalize txE (rdI s).1=T at *
  generalize gT s=L at *
  generalize (rdI s).1=e at *
  cases hf with
  | mk m1 m2 m3 m4 _ _ _ _ =>
  refine az func5 rfl rfl ?_
  repeat' (first|(apply ay;refine n_caG cD ?_)|(apply ay;first|(refine aK ?_ ?_<;>intro hG<;>(try cases hG))|refine ak ?_|refine cI (v:=.tu _) ?_|refine ai ?_|refine bM ?_|refine aH cb ?_|refine db c1 ?_|refine db c2 ?_|refine db c3 ?_|refine aH c4 ?_|refine db c5 ?_|refine aH c6 ?_|refine aH c7 ?_|refine bh ?_|refine ao ?_|refine eH ?_|refine bI ?_|refine aB ?_|refine b9 ?_|refine dA (v:=.ag _) ?_|refine bJ ?_)|refine aj ?_|refine ab ?_|refine aa fun C=>?_|refine ac ?_|refine al ?_|refine ar rfl ?_)
  refine am ?_;refine bA rfl aJ ⟨?_,rfl⟩
  rfl
theorem ky {w:World}{St:Nat→Prop}{φ:Nat→Lc}{K:Nat→Prop}:∀bs:List UInt8,CRL w St φ K (acL (bE8 bs)) (bs.map fun b=>.int .u8 b.toNat) []
 | []=>CRL.nil
 | b :: r=>by
  show CRL w St φ K (.v (.int .u8 (b.toNat:Int)) :: acL (bE8 r)) (.int .u8 b.toNat :: r.map fun b=>.int .u8 b.toNat) ([]++[])
  exact CRL.cons (by simp only [CR];exact⟨trivial,rfl,trivial⟩) (ky r)
theorem rd_ro {w:World}{A:Option Addr}{n c:Nat}{bs:List UInt8}(h:Rd w 1 yy (.slice A n c) bs):VR w (fun b=>b<w.heap.size) φ0 K0 (.c (.ro bs.length 1 (acL (bE8 bs)))) (.slice A bs.length c):=by
 obtain⟨A',c',he,h1,⟨h2,h3⟩,h4⟩:=h
 injection he with e1 e2 e3
 subst e1 e2 e3
 simp only [VR,CR]
 refine⟨trivial,A,c,rfl,⟨h1,h2,h3⟩,by rw [show (acL (bE8 bs)).length=bs.length from by have:=(ky (w:=w) (St:=fun _=>True) (φ:=φ0) (K:=K0) bs).len;simp at this;omega];omega,fun hn=>?_⟩
 obtain⟨b,o,rfl,-,hlt,hc⟩:=h4 hn
 refine⟨b,o,_,rfl,hlt,hlt,fun i x hx=>?_,ky bs⟩
 rw [List.getElem?_map] at hx
 have hi:i<bs.length:=by
  rcases Nat.lt_or_ge i bs.length with h|h
  ·exact h
  ·rw [List.getElem?_eq_none h] at hx;cases hx
 rw [List.getElem?_eq_getElem hi] at hx
 have:=hc i hi 0 x (by simpa [yy] using hx)
 simpa using this
theorem yw {f:FuncId}{w:World}{A:Option Addr}{c:Nat}{bs:List UInt8}(h:Ctr prog f [.c (.ro bs.length 1 (acL (bE8 bs)))] [] (.c (.v (.bool true))) [])(hs:Rd w 1 yy (.slice A bs.length c) bs)(gw:Gl w:=by (first|assumption|exact gl_any _|exact Gl.below_ gl0 (by exact (by repeat (first|(with_reducible refine Below.setCell ?_ (by first|omega|(·simp)|(·(simp;omega))) _)|(with_reducible refine Below.alloc ?_ (by first|omega|(·simp)|(·(simp;omega))) _)|(with_reducible refine Below.drew ?_)|(with_reducible refine bdrewN ?_ _)|(with_reducible exact Below.refl _ _)|(with_reducible assumption)|(with_reducible refine Below.trans ?_ (Below.mono (by assumption) (by first|omega|(·simp)|(·(simp;omega)))))|(with_reducible refine Below.trans ?_ (Kp.below (by assumption) (by first|omega|(·simp)|(·(simp;omega))) (by first|omega|(·simp)|(·(simp;omega)))))))))) :
 Calls prog f #[.slice A bs.length c] w fun e w'=>e=.returned (.bool true)∧Below w.heap.size w w' :=
 zw3 h (us:=[.slice A bs.length c]) (VRL_cons (rd_ro hs) VRL_nil) gw
end Go.Proofs.YtomolhbkdhjofaaGreatDoor
