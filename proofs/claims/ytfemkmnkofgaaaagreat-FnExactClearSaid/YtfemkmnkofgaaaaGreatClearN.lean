/- The type Heap, and slices of it: shape; the laws' own functions. -/
import Derived.Test.YtfemkmnkofgaaaaGreatClearM
namespace Go.Proofs.YtfemkmnkofgaaaaGreat
open Go.RowKit
theorem zy3 {e:E}(h:e.Ty Tryz.prog 24):∃(x0A:Option Addr) (x0c:Nat) (x0l:List E),e=(E.agg [.lst 4 129 x0A x0c x0l])∧((∀y∈x0l,y.Ty Tryz.prog 129)∧(∀y∈x0l,y.enc.length=4))∧True:=by
 obtain⟨fs,rfl,q0⟩:=h.agg_ Tryz.underlying24
 change E.TyF _ _ [22] at q0
 obtain⟨e0,r0,rfl,h0,q1⟩:=q0.cons_
 obtain rfl:=q1.nil_
 obtain⟨x0A,x0c,x0l,rfl,gx0,gx0'⟩:=h0.lst_ Tryz.underlying22 (k:=4) (by kernel_rfl)
 exact⟨x0A,x0c,x0l,rfl,⟨gx0,gx0'⟩,trivial⟩
theorem zo1 {e:E}(h:e.Ty Tryz.prog 37):∃(x0A:Option Addr) (x0c:Nat) (x0l:List E),e=(E.agg [.lst 4 110 x0A x0c x0l])∧((∀y∈x0l,y.Ty Tryz.prog 110)∧(∀y∈x0l,y.enc.length=4))∧True:=by
 obtain⟨fs,rfl,q0⟩:=h.agg_ Tryz.underlying37
 change E.TyF _ _ [35] at q0
 obtain⟨e0,r0,rfl,h0,q1⟩:=q0.cons_
 obtain rfl:=q1.nil_
 obtain⟨x0A,x0c,x0l,rfl,gx0,gx0'⟩:=h0.lst_ Tryz.underlying35 (k:=4) (by kernel_rfl)
 exact⟨x0A,x0c,x0l,rfl,⟨gx0,gx0'⟩,trivial⟩
set_option maxRecDepth 100000 in
set_option maxHeartbeats 1000000 in
theorem zv14 {e:E}(ht:e.Ty Tryz.prog 24):Sz 11 e:=by
 obtain⟨x0A,x0c,x0l,rfl,gx0,-⟩:=zy3 ht
 intro left w hr h0 h1
 have HSZ:Hid ((E.agg [.lst 4 129 x0A x0c x0l]).sz=((E.lst 4 129 x0A x0c x0l).sz+0)):=rfl
 change Calls _ _ #[.agg #[.slice x0A x0l.length x0c],.int .i64 left] w _
 have hr0:=(hr.fld (i:=0) rfl).alloc (.cells #[.slice x0A x0l.length x0c] 24)
 go_enter Tryz.func11,Tryz.ntmps11
 go_wp2_with fail
 go_at_call 48
 refine ((zi12 (E.Ty.mk_lst Tryz.underlying22 (by kernel_rfl) gx0.1 gx0.2)) _ _ hr0 (by omega) (by omega)).mono ?_;rintro e w1 ⟨r1,rfl,hr1s,hl1,hb1⟩
 have hz1:=hb1.size;(try simp only [World.size_alloc] at hz1)
 by_cases hn1:r1<0
 ·go_wp2
  go_ret
  exact⟨-1,rfl,.inl (by omega),by omega,by exact by0⟩
 have hq1:=hr1s.resolve_left hn1
 go_wp2
 go_ret
 refine⟨_,rfl,.inr ?_,by omega,by exact by0⟩
 show _=_
 rw [HSZ.out]
 have e1:=hq1.out
 push_cast
 omega
set_option maxRecDepth 100000 in
set_option maxHeartbeats 1000000 in
theorem zw14 {e:E}(ht:e.Ty Tryz.prog 24):To 20 37 e:=by
 have HT0:=Lib.hid ht
 obtain⟨x0A,x0c,x0l,rfl,gx0,-⟩:=zy3 ht
 intro w hr hsz
 have hsz':((E.lst 4 129 x0A x0c x0l).sz+0)≤1048576:=hsz
 have hs0:(E.lst 4 129 x0A x0c x0l).sz≤1048576:=by omega
 clear hsz hsz'
 have hr0:=hr.fld (i:=0) rfl
 have ty0:(E.lst 4 129 x0A x0c x0l).Ty Tryz.prog 22:=E.Ty.mk_lst Tryz.underlying22 (by kernel_rfl) gx0.1 gx0.2
 have HC0:=Lib.hid (zj12 ty0)
 clear ty0
 change Calls _ _ #[.agg #[.slice x0A x0l.length x0c]] w _
 go_enter Tryz.func20,Tryz.ntmps20
 go_wp2_with fail
 go_at_call 57
 refine (HC0.out _ (((hr0.alloc _).alloc _).alloc _) hs0).mono ?_;rintro e w1 ⟨v1,he,HD1,ht1,ho1,hn1,hb1⟩
 have HT1:=Lib.hid ht1
 have HN1:=Lib.hid hn1
 obtain⟨A1,q1,l1,rfl,-,-⟩:=ht1.lst_ Tryz.underlying35 (k:=4) (by kernel_rfl)
 obtain rfl:e=.returned (.slice A1 l1.length q1):=he
 clear hn1 ht1
 have B0_1:w1.heap[w.heap.size]? = some (.cells #[.slice x0A x0l.length x0c] 24 (0,0)):=(hb1.block (w.heap.size) (by simp;omega)).trans zh4.1
 have B1_1:w1.heap[w.heap.size+1]? = some (.cells #[.slice none 0 0] 37 (0,0)):=(hb1.block (w.heap.size+1) (by simp)).trans zh4.2.1
 have B2_1:w1.heap[w.heap.size+1+1]? = some (.cells #[.slice none 0 0] 37 (0,0)):=(hb1.block (w.heap.size+1+1) (by simp)).trans zh4.2.2
 have hz1:=hb1.size;simp only [World.size_alloc] at hz1
 have hB1:Below w.heap.size w w1:=(by exact by0:Below w.heap.size w _).trans (hb1.mono (by simp;omega))
 have ho1:=ho1.wider (lo':=w.heap.size+1+1+1) (by simp) (Nat.le_refl _)
 have c1_0:w1.cell? ⟨w.heap.size,0,none⟩=some (.slice x0A x0l.length x0c):=za B0_1 rfl
 have d1_0:w1.cell? ⟨w.heap.size+1+1,0,none⟩=some (.slice none 0 0):=za B2_1 rfl
 have f1:=zt2 B2_1
 have r0':=za B1_1 (o:=0) rfl
 have fr':=zt2 B1_1
 go_wp2
 have OWN:Owns w1 (w.heap.size+1+1+1) w1.heap.size [(E.lst 4 110 A1 q1 l1)]:=(Owns.cons (mid:=w1.heap.size) ho1 HN1.out Owns.nil (by omega) (by omega))
 refine bodyPost_ret (v:=.agg #[.slice A1 l1.length q1]) (zp4 (t:=37) (fr:=(0,0)) rfl rfl Tryz.underlying37 (by kernel_rfl) ?_) rfl ⟨(E.agg [(E.lst 4 110 A1 q1 l1)]),rfl,?_,E.Ty.mk_agg Tryz.underlying37 (E.TyF.mk_cons HT1.out (E.TyF.mk_nil)),?_,?_,?_⟩
 ·simp only [zn2,B1_1,B2_1];simp [setAt]
 ·show E.d _=E.d _
  simp only [E.d,E.dL]
  have y1:=HD1.out;simp only [E.d,E.dL] at y1
  simp only [E.agg.injEq,List.cons.injEq,E.lst.injEq,E.int.injEq,E.str.injEq,E.bool.injEq,true_and,and_true] at *
  simp [*]
 ·exact ((E.Ho.mk_agg OWN.1).kp (lo':=w.heap.size+1) (hi':=w.heap.size+1+1+1) (by repeat (first|(with_reducible exact Kp.refl _ _ _)|(refine Kp.set ?_ (by first|omega|(dsimp only;omega)|(simp;omega)) (by first|omega|(dsimp only;omega)|(simp;omega)) _))) (.inr (by omega))).wider (by omega) (by simp)
 ·exact OWN.2
 ·exact hB1.trans (Kp.below (lo:=w.heap.size+1) (hi:=w.heap.size+1+1+1) (by repeat (first|(with_reducible exact Kp.refl _ _ _)|(refine Kp.set ?_ (by first|omega|(dsimp only;omega)|(simp;omega)) (by first|omega|(dsimp only;omega)|(simp;omega)) _))) (by omega) (by omega))
set_option maxRecDepth 100000 in
set_option maxHeartbeats 1000000 in
theorem zx14 {e e':E}(ht:e.Ty Tryz.prog 37)(ht':e'.Ty Tryz.prog 37):Eq 30 e e':=by
 obtain⟨x0A,x0c,x0l,rfl,gx0,-⟩:=zo1 ht
 obtain⟨y0A,y0c,y0l,rfl,gy0,-⟩:=zo1 ht'
 intro hd w hr hr'
 simp only [E.d,E.dL,E.agg.injEq,List.cons.injEq,E.int.injEq,E.str.injEq,E.bool.injEq,E.lst.injEq,true_and,and_true] at hd
 have hd0:=hd
 clear hd
 have hr0:=((hr.fld (i:=0) rfl).alloc (.cells #[.slice x0A x0l.length x0c] 37)).alloc (.cells #[.slice y0A y0l.length y0c] 37)
 have hs0:=((hr'.fld (i:=0) rfl).alloc (.cells #[.slice x0A x0l.length x0c] 37)).alloc (.cells #[.slice y0A y0l.length y0c] 37)
 have t0:(E.lst 4 110 x0A x0c x0l).Ty Tryz.prog 35:=E.Ty.mk_lst Tryz.underlying35 (by kernel_rfl) gx0.1 gx0.2
 have u0:(E.lst 4 110 y0A y0c y0l).Ty Tryz.prog 35:=E.Ty.mk_lst Tryz.underlying35 (by kernel_rfl) gy0.1 gy0.2
 have HC0:=Lib.hid (zk12 t0 u0 (by simp only [E.d,E.dL,E.agg.injEq,List.cons.injEq,E.int.injEq,E.str.injEq,E.bool.injEq,E.lst.injEq,true_and,and_true];exact hd0))
 clear t0 u0
 clear hd0
 change Calls _ _ #[.agg #[.slice x0A x0l.length x0c],.agg #[.slice y0A y0l.length y0c]] w _
 go_enter Tryz.func30,Tryz.ntmps30
 go_wp2_with fail
 go_at_call 67
 refine (HC0.out _ hr0 hs0).mono ?_;rintro e w1 ⟨rfl,hb1⟩
 have hz1:=hb1.size;(try simp only [World.size_alloc] at hz1)
 go_wp2
 go_ret
 exact⟨rfl,by0⟩
set_option maxRecDepth 100000 in
set_option maxHeartbeats 1000000 in
theorem zu10 {e:E}(ht:e.Ty Tryz.prog 37):Mar 36 e:=by
 obtain⟨x0A,x0c,x0l,rfl,gx0,-⟩:=zo1 ht
 have ty0:(E.lst 4 110 x0A x0c x0l).Ty Tryz.prog 35:=E.Ty.mk_lst Tryz.underlying35 (by kernel_rfl) gx0.1 gx0.2
 have HC0:=Lib.hid (zh9 ty0)
 clear ty0
 intro lo hi k0 w ho hnd hhi h0 h1
 have HCN:Hid ((E.agg [.lst 4 110 x0A x0c x0l]).cnt=((E.lst 4 110 x0A x0c x0l).cnt+0)):=rfl
 have h1':=h1
 rw [HCN.out] at h1'
 clear h1
 change (E.fpL [(E.lst 4 110 x0A x0c x0l)]).Nodup at hnd
 have ho0:=(ho.fld (i:=0) rfl).alloc hhi (.cells #[.slice x0A x0l.length x0c] 37)
 have HN0:=Lib.hid (zi1 hnd (show (E.lst 4 110 x0A x0c x0l)∈[(E.lst 4 110 x0A x0c x0l)] by simp))
 have HS0:=Lib.hid (fun b (hb:b∈(E.lst 4 110 x0A x0c x0l).fp)=>(E.mem_fpL.2 ⟨_,(show (E.lst 4 110 x0A x0c x0l)∈[(E.lst 4 110 x0A x0c x0l)] by simp),hb⟩:b∈E.fpL [(E.lst 4 110 x0A x0c x0l)]))
 clear hnd ho
 change Calls _ _ #[.agg #[.slice x0A x0l.length x0c],.int .i64 k0] w _
 go_enter Tryz.func36,Tryz.ntmps36
 go_wp2_with fail
 go_at_call 71
 refine (HC0.out lo hi _ _ ho0 HN0.out (by first|omega|(simp;omega)) (by omega) (by omega)).mono ?_;rintro e w1 ⟨rfl,hm0,hf1⟩
 have hz1:=hf1.size;(try simp only [World.size_alloc] at hz1)
 have B1:w1.heap[w.heap.size]? = some (.cells #[.slice x0A x0l.length x0c] 37 (0,0)):=(hf1.block w.heap.size (by first|omega|simp) (fun hm=>by have:=ho0.lt _ hm;omega)).trans (heap_alloc_new w _)
 go_wp2
 go_ret
 exact⟨ri (by have:=HCN.out;omega),E.Ho.mk_agg (E.HoL.mk_cons (zs4 hm0 (by first|rfl|omega|(show _=_;simp only [E.cnt,E.cntL,E.cntc,E.cntcL,reduceCtorEq,if_false,if_true,ite_false];omega))) (show E.HoL _ _ _ [] by simp only [E.HoL])),((Fr.of_below ((Below.refl _ _).alloc (Nat.le_refl _) _)).trans (hf1.sub HS0.out))⟩
set_option maxRecDepth 100000 in
set_option maxHeartbeats 1000000 in
theorem zv10 {e:E}(ht:e.Ty Tryz.prog 37):Hel 42 e:=by
 obtain⟨x0A,x0c,x0l,rfl,gx0,-⟩:=zo1 ht
 have ty0:(E.lst 4 110 x0A x0c x0l).Ty Tryz.prog 35:=E.Ty.mk_lst Tryz.underlying35 (by kernel_rfl) gx0.1 gx0.2
 have HC0:=Lib.hid (zi9 ty0)
 clear ty0
 intro k0 w hr h0 h1
 have HCN:Hid ((E.agg [.lst 4 110 x0A x0c x0l]).cnt=((E.lst 4 110 x0A x0c x0l).cnt+0)):=rfl
 have h1':=h1
 rw [HCN.out] at h1'
 clear h1
 have hr0:=(E.In.fld (i:=0) hr rfl).alloc (.cells #[.slice x0A x0l.length x0c] 37)
 change Calls _ _ #[.agg #[.slice x0A x0l.length x0c],.int .i64 k0] w _
 go_enter Tryz.func42,Tryz.ntmps42
 go_wp2_with fail
 go_at_call 77
 refine (HC0.out _ _ (zt4 hr0 (by first|rfl|omega|(show _=_;simp only [E.cnt,E.cntL,E.cntc,E.cntcL,reduceCtorEq,if_false,if_true,ite_false];omega))) (by omega) (by omega)).mono ?_;rintro e w1 ⟨rfl,hb1⟩
 have hz1:=hb1.size;(try simp only [World.size_alloc] at hz1)
 go_wp2
 go_ret
 exact⟨ri (by have:=HCN.out;omega),by exact by0⟩
end Go.Proofs.YtfemkmnkofgaaaaGreat
namespace Go.Proofs.YtfemkmnkofgaaaaGreat
open Go.RowKit
end Go.Proofs.YtfemkmnkofgaaaaGreat
namespace Go.Proofs.YtfemkmnkofgaaaaGreat
open Go.RowKit
end Go.Proofs.YtfemkmnkofgaaaaGreat
namespace Go.Proofs.YtfemkmnkofgaaaaGreat
open Go.RowKit
end Go.Proofs.YtfemkmnkofgaaaaGreat
namespace Go.Proofs.YtfemkmnkofgaaaaGreat
open Go.RowKit
end Go.Proofs.YtfemkmnkofgaaaaGreat
namespace Go.Proofs.YtfemkmnkofgaaaaGreat
open Go.RowKit
set_option maxRecDepth 100000
def varsE (e:E):List E:=match e with | .agg (.lst _ _ _ _ l :: _)=>l|_=>[]
def rfE (e:E):Int:=match e with | .agg (.int _ n :: _)=>n|_=>0
theorem zw10 {e:E}(h:e.Ty Tryz.prog 110):flatE e=true:=by
 obtain⟨y0,y1,y2,y3,rfl,_⟩:=zn1 h;rfl
theorem zx17 {e:E}(he:e.Ty Tryz.prog 37)(hsz:e.sz≤1048576):Ctr Tryz.prog 52 [.ag (acE e)] [] (.ag (owE e)) []:=by
 obtain⟨x0A,x0c,l,rfl,⟨hl,hk⟩,-⟩:=zo1 he
 have hlen:l.length≤1048576:=by simp only [E.sz,E.szL] at hsz;omega
 have fl:acL l=owL l:=zi3 l (zr3 fun e h=>zw10 (hl e h))
 refine zm2 Tryz.func52 rfl rfl ?_
 repeat (first|refine zp ?_|refine zw ?_|refine zl1 ?_|refine zy1 ?_|refine zo2 ?_|refine zc fun C=>?_|refine zq1 (by kernel_rfl) (by kernel_rfl) fun C=>?_|refine zd ?_|refine zn5 ?_|refine x_bs ?_|refine x_gr ?_|refine x_st ?_|refine x_mv ?_|refine x_sk ?_|refine zh22 ?_|refine x_ix ?_|refine ze21 ?_|refine zf21 ?_|refine zg21 ?_|refine ze17 ?_|refine x_ld ?_)
 refine ret0 (x:=.ag [.ow 110 l.length 4 (acL l)]) rfl (zj5 (zc2 (rw:=⟨110,4,l.length,false,acL l⟩) rfl rfl rfl (by rw [fl];exact zj _) zx3)) ⟨by rw [fl];rfl,rfl⟩
theorem zy14 {e:E}(he:e.Ty Tryz.prog 37)(hsz:e.sz≤1048576):Ctr Tryz.prog 61 [.ag (acE e)] [] (.ag (owE e)) []:=by
 obtain⟨x0A,x0c,l,rfl,⟨hl,hk⟩,-⟩:=zo1 he
 have hlen:l.length≤1048576:=by simp only [E.sz,E.szL] at hsz;omega
 have fl:acL l=owL l:=zi3 l (zr3 fun e h=>zw10 (hl e h))
 refine zm2 Tryz.func61 rfl rfl ?_
 repeat (first|refine zp ?_|refine zw ?_|refine zl1 ?_|refine zy1 ?_|refine zo2 ?_|refine zc fun C=>?_|refine zq1 (by kernel_rfl) (by kernel_rfl) fun C=>?_|refine zd ?_|refine zn5 ?_|refine x_bs ?_|refine x_gr ?_|refine x_st ?_|refine x_mv ?_|refine x_sk ?_|refine zh22 ?_|refine x_ix ?_|refine ze21 ?_|refine zf21 ?_|refine zg21 ?_|refine ze17 ?_|refine x_ld ?_)
 refine ret0 (x:=.ag [.ow 110 l.length 4 (acL l)]) rfl (zj5 (zc2 (rw:=⟨110,4,l.length,false,acL l⟩) rfl rfl rfl (by rw [fl];exact zj _) zx3)) ⟨by rw [fl];rfl,rfl⟩
def inR (x a b:Int):Bool:=decide (a≤x)&&decide (x≤b)
theorem zt19 (x a b:Int):Ctr Tryz.prog 94 [.c (.v (.int .i64 x)),.c (.v (.int .i64 a)),.c (.v (.int .i64 b))] [] (.c (.v (.bool (inR x a b)))) []:=by
 refine zm2 Tryz.func94 rfl rfl ?_
 repeat' (first|refine zp ?_|refine zc fun C=>?_|refine zd ?_|(refine x_gm ?_ ?_<;>intro hG<;>(try cases hG))|refine zn5 ?_|refine x_sk ?_)
 all_goals
  refine zo2 ?_
  refine ret0 rfl zf17 ⟨?_,rfl⟩
  refine congrArg (fun s=>AV.c (AC.v (Value.bool s))) ?_
  simp at *
  simp [inR, *]
  try omega
def zVal:E:=.agg [.int .i64 0,.int .i64 0,.str ByteArray.empty]
def vE (e:E):E:=match e with | .agg [_,v]=>v|_=>zVal
def heldLE (l:List E)(k:Int):Bool:=decide (0≤k)&&(decide (k<l.length)&&decide (0<rfE (l[k.toNat]?.getD zVal)))
def letLE (l:List E)(k:Int):List E:=if heldLE l k then l.set k.toNat (.agg [.int .i64 (rfE (l[k.toNat]?.getD zVal)-1),if rfE (l[k.toNat]?.getD zVal)-1=0 then zVal else vE (l[k.toNat]?.getD zVal)]) else l
def heapE (l:List E):E:=.agg [.lst 4 110 none 0 l]
theorem zl12 {l:List E}{k:Int}(h:¬(0≤k∧k<l.length)):heldLE l k=false:=by
 unfold heldLE
 by_cases h0:0≤k
 ·have h1:¬k<l.length:=fun h1=>h ⟨h0,h1⟩
  simp [h1]
 ·simp [h0]
theorem zf6 {l:List E}{i:Nat}{r:Int}{v:E}(hx:l[i]? = some (.agg [.int .i64 r,v])):heldLE l (i:Int)=decide (0<r):=by
 have:=(List.getElem?_eq_some_iff.1 hx).1
 unfold heldLE
 simp [hx,rfE]
 omega
theorem zy17 {e:E}(he:e.Ty Tryz.prog 37)(hsz:e.sz≤1048576)(k:Int):Ctr Tryz.prog 56 [.ag (acE e),.c (.v (.int .i64 k))] [] (.c (.v (.bool (heldLE (varsE e) k)))) []:=by
 obtain⟨x0A,x0c,l,rfl,⟨hl,hk⟩,-⟩:=zo1 he
 have hlen:l.length≤1048576:=by simp only [E.sz,E.szL] at hsz;omega
 show Ctr _ _ _ _ (.c (.v (.bool (heldLE l k)))) _
 by_cases h:0≤k∧k<l.length
 ·obtain⟨i,rfl⟩:∃i:Nat,k=(i:Int):=⟨k.toNat,by omega⟩
  obtain⟨x,hx⟩:∃x,l[i]? = some x:=⟨_,List.getElem?_eq_getElem (by omega)⟩
  obtain⟨r,y1,y2,y3,rfl,hy⟩:=zn1 (hl x (List.mem_of_getElem? hx))
  rw [zf6 hx]
  refine zm2 Tryz.func56 rfl rfl ?_
  repeat' (first|(apply f_wo;first|(apply f_gs;refine n_sk ?_)|(apply f_mv;first|(refine zr19 ?_ ?_<;>intro hG<;>(try cases hG))|refine zt1 (v:=.c _) ?_)|(apply f_as;refine zp2 (v:=.c _) ?_)|(apply f_fa;first|refine n_fa ?_|refine zb7 ?_)|(apply f_ld;first|refine zh2 ?_|refine zn4 ?_)|(apply f_bi;refine zi2 ?_)|(apply f_ia;refine n_ix ?_)|(apply zf3;refine zf1 ?_)|(apply zl22;refine zr10 ?_)|(apply zm22;refine zs10 ?_)|(apply f_pk;refine zq19 (v:=.c _) ?_)|refine n_bo ?_)|(apply f_w;first|refine za1 ?_|refine zd ?_)|refine zc fun C=>?_|refine zp ?_)
  all_goals first
   | (exfalso;simp only [decide_eq_true_iff,decide_eq_false_iff_not,ge_iff_le] at *;omega)
   | (refine zo2 ?_;refine ret0 rfl zf17 ⟨?_,rfl⟩;rfl)
 ·rw [zl12 h]
  refine zm2 Tryz.func56 rfl rfl ?_
  repeat' (first|(apply f_wo;first|(apply f_gs;refine n_sk ?_)|(apply f_mv;first|(refine zr19 ?_ ?_<;>intro hG<;>(try cases hG))|refine zt1 (v:=.c _) ?_)|(apply f_as;refine zp2 (v:=.c _) ?_)|(apply f_fa;refine n_fa ?_)|(apply f_ld;refine zh2 ?_)|(apply f_bi;refine zi2 ?_)|(apply zf3;refine zf1 ?_)|(apply zm22;refine zs10 ?_)|(apply f_pk;refine zq19 (v:=.c _) ?_)|refine n_bo ?_)|(apply f_w;first|refine za1 ?_|refine zd ?_)|refine zc fun C=>?_|refine zp ?_)
  all_goals first
   | (refine zo2 ?_;refine ret0 rfl zf17 ⟨?_,rfl⟩;rfl)
   | (exfalso;simp only [decide_eq_true_iff,decide_eq_false_iff_not,ge_iff_le] at *;omega)
theorem zz17 {x a b:Int}:inR x a b=true↔a≤x∧x≤b:=by simp [inR]
theorem zn22 {e:E}(he:e.Ty Tryz.prog 37)(hsz:e.sz≤1048576)(k:Int):Ctr Tryz.prog 66 [.ag (acE e),.c (.v (.int .i64 k))] [] (.c (.v (.bool (heldLE (varsE e) k)))) []:=by
 obtain⟨x0A,x0c,l,rfl,⟨hl,hk⟩,-⟩:=zo1 he
 have hlen:l.length≤1048576:=by simp only [E.sz,E.szL] at hsz;omega
 show Ctr _ _ _ _ (.c (.v (.bool (heldLE l k)))) _
 have hw:=zt19 k 0 ((l.length:Int)-1)
 by_cases h:0≤k∧k<l.length
 ·rw [zz17.2 ⟨h.1,by omega⟩] at hw
  obtain⟨i,rfl⟩:∃i:Nat,k=(i:Int):=⟨k.toNat,by omega⟩
  obtain⟨x,hx⟩:∃x,l[i]? = some x:=⟨_,List.getElem?_eq_getElem (by omega)⟩
  obtain⟨r,y1,y2,y3,rfl,hy⟩:=zn1 (hl x (List.mem_of_getElem? hx))
  rw [zf6 hx]
  refine zm2 Tryz.func66 rfl rfl ?_
  repeat' (first|(apply f_wo;first|(apply f_mv;first|(refine zr19 ?_ ?_<;>intro hG<;>(try cases hG))|refine zt1 (v:=.c _) ?_)|(apply f_as;refine zp2 (v:=.c _) ?_)|(apply f_fa;first|refine n_fa ?_|refine zb7 ?_)|(apply f_ld;first|refine zh2 ?_|refine zn4 ?_)|(apply f_ca;refine zv7 hw ?_)|(apply f_bi;refine zi2 ?_)|(apply f_ia;refine n_ix ?_)|(apply zl22;refine zr10 ?_)|(apply f_pk;refine zq19 (v:=.c _) ?_)|(apply f_bb;refine zk5 ?_)|refine n_bo ?_)|(apply f_w;first|refine za1 ?_|refine zd ?_)|refine zc fun C=>?_|refine zp ?_)
  all_goals (refine zo2 ?_;refine ret0 rfl zf17 ⟨?_,rfl⟩;rfl)
 ·rw [zl12 h]
  have e0:inR k 0 ((l.length:Int)-1)=false:=by
   cases hb:inR k 0 ((l.length:Int)-1) with
   | false=>rfl
   | true=>exact absurd (zz17.1 hb) (by omega)
  rw [e0] at hw
  refine zm2 Tryz.func66 rfl rfl ?_
  repeat' (first|(apply f_wo;first|(apply f_gs;refine n_sk ?_)|(apply f_mv;first|(refine zr19 ?_ ?_<;>intro hG<;>(try cases hG))|refine zt1 (v:=.c _) ?_)|(apply f_as;refine zp2 (v:=.c _) ?_)|(apply f_fa;refine n_fa ?_)|(apply f_ld;refine zh2 ?_)|(apply f_ca;refine zv7 hw ?_)|(apply f_bi;refine zi2 ?_)|(apply f_pk;refine zq19 (v:=.c _) ?_)|(apply f_bb;refine zk5 ?_)|refine n_bo ?_)|(apply f_w;first|refine za1 ?_|refine zd ?_)|refine zc fun C=>?_|refine zp ?_)
  all_goals (refine zo2 ?_;refine ret0 rfl zf17 ⟨?_,rfl⟩;rfl)
theorem zj9 {l:List E}{k:Int}(h:heldLE l k=false):letLE l k=l:=by unfold letLE;rw [h];rfl
theorem zk9 {l:List E}(hl:∀e∈l,e.Ty Tryz.prog 110){k:Int}(h:heldLE l k=true):∃(i:Nat) (r v0 v1:Int) (v2:ByteArray),k=(i:Int)∧i<l.length∧l[i]? = some (.agg [.int .i64 r,.agg [.int .i64 v0,.int .i64 v1,.str v2]])∧0<r∧r≤9223372036854775807:=by
 by_cases h1:0≤k∧k<l.length
 ·obtain⟨i,rfl⟩:∃i:Nat,k=(i:Int):=⟨k.toNat,by omega⟩
  obtain⟨x,hx⟩:∃x,l[i]? = some x:=⟨_,List.getElem?_eq_getElem (by omega)⟩
  obtain⟨r,y1,y2,y3,rfl,hy,-⟩:=zn1 (hl x (List.mem_of_getElem? hx))
  rw [zf6 hx] at h
  exact⟨i,r,y1,y2,y3,rfl,by omega,hx,of_decide_eq_true h,(zd14 hy).2⟩
 ·rw [zl12 h1] at h;cases h
theorem ze7 {l:List E}{i:Nat}{r v0 v1:Int}{v2:ByteArray}(hx:l[i]? = some (.agg [.int .i64 r,.agg [.int .i64 v0,.int .i64 v1,.str v2]]))(h:0<r):letLE l (i:Int)=l.set i (.agg [.int .i64 (r-1),if r-1=0 then zVal else .agg [.int .i64 v0,.int .i64 v1,.str v2]]):=by
 unfold letLE
 rw [zf6 hx,if_pos (by simpa using h)]
 simp [hx,rfE,vE]
theorem zg6 {P:Program}{c:Code}{Q:Exit→AS→Prop}{σ:AS}(h:AWp P c (fun e σ'=>∃τ,Gh σ' τ∧Q e τ) σ):AWp P c Q σ:=fun C a w hs=>wp_mono (h C a w hs) fun _ a' w' ⟨_,⟨τ,hg,hq⟩,hsim⟩=>⟨τ,hq,hg C a' w' hsim⟩
theorem zo4 {R:List AC}(hR:cloL R=true){e:E}(he:e.Ty Tryz.prog 37)(hsz:e.sz≤1048576)(k:Int):Ctr Tryz.prog 19 [.c (.pt 0 0),.c (.v (.int .i64 k))] [owE e++R] (.tu []) [owE (heapE (letLE (varsE e) k))++R]:=by
 have ch:=zy17 he hsz k
 obtain⟨x0A,x0c,l,rfl,⟨hl,hk⟩,-⟩:=zo1 he
 have hlen:l.length≤1048576:=by simp only [E.sz,E.szL] at hsz;omega
 rw [show varsE (E.agg [.lst 4 110 x0A x0c l])=l from rfl] at ch ⊢
 cases hb:heldLE l k with
 | false =>
  rw [hb] at ch
  rw [zj9 hb]
  refine zm2 Tryz.func19 rfl rfl ?_
  refine zk2 (zt7 100 (i:=0) rfl rfl (pre:=[]) (post:=R) rfl) ?_
  refine zg6 ?_
  repeat' (first|(apply f_wo;first|(apply f_mv;refine zt1 (v:=.c _) ?_)|(apply f_ca;refine zv7 ch ?_)|(apply f_no;refine zu7 ?_)|refine zf2 ?_)|(apply f_w;first|refine za1 ?_|refine zd ?_)|refine zc fun C=>?_|refine zp ?_|refine zc5 rfl ?_)
  refine zo2 ?_
  refine⟨_,ze3 (i:=0) (j:=100) rfl rfl rfl (pre:=[]) (post:=R) rfl,?_⟩
  refine retL (x:=.tu []) (cs:=.ow 110 l.length 4 (owL l) :: R) rfl rfl rfl ?_ rfl ⟨rfl,rfl⟩
  simp [cloL,clo,zj,hR]
 | true =>
  rw [hb] at ch
  obtain⟨i,r,v0,v1,v2,rfl,hlt,hx,hr,hr2⟩:=zk9 hl hb
  rw [ze7 hx hr]
  have hw:IntKind.i64.wrap (r-1)=r-1:=by rw [IntKind.wrap_i64];omega
  have hs1:subL (owL l) (i*4+0) 1=[.v (.int .i64 r)]:=zr13 hk hx (by omega)
  have hle:i*4+0+1≤(owL l).length:=zx8 (j:=0) hk hlt (by omega)
  have e1:spl (owL l) (i*4+0) [.v (.int .i64 (r-1))]=owL (l.set i (.agg [.int .i64 (r-1),.agg [.int .i64 v0,.int .i64 v1,.str v2]])):=zw8 hk hx (by simp) rfl
  have hk':∀e∈l.set i (.agg [.int .i64 (r-1),.agg [.int .i64 v0,.int .i64 v1,.str v2]]),e.enc.length=4:=fun e he=>by
   rcases List.mem_or_eq_of_mem_set he with h|rfl
   ·exact hk e h
   ·rfl
  have hx':(l.set i (.agg [.int .i64 (r-1),.agg [.int .i64 v0,.int .i64 v1,.str v2]]))[i]? = some (.agg [.int .i64 (r-1),.agg [.int .i64 v0,.int .i64 v1,.str v2]]):=List.getElem?_set_self hlt
  have hs2:subL (spl (owL l) (i*4+0) [.v (.int .i64 (r-1))]) (i*4+0) 1=[.v (.int .i64 (r-1))]:=by rw [e1];exact zr13 hk' hx' (by omega)
  have hle2:i*4+1+3≤(spl (owL l) (i*4+0) [.v (.int .i64 (r-1))]).length:=by rw [e1];exact zx8 (j:=1) hk' (by simpa using hlt) (by omega)
  have e2:spl (spl (owL l) (i*4+0) [.v (.int .i64 (r-1))]) (i*4+1) [.v (.int .i64 0),.v (.int .i64 0),.v (.string ByteArray.empty)]=owL (l.set i (.agg [.int .i64 (r-1),zVal])):=by
   rw [e1,zw8 hk' hx' (x':=.agg [.int .i64 (r-1),zVal]) (by simp) rfl,List.set_set]
  refine zm2 Tryz.func19 rfl rfl ?_
  refine zk2 (zt7 100 (i:=0) rfl rfl (pre:=[]) (post:=R) rfl) ?_
  refine zg6 ?_
  by_cases hz:r-1=0
  ·rw [if_pos hz]
   repeat' (first|(apply f_wo;first|(apply f_mv;refine zt1 (v:=.c _) ?_)|(apply f_fa;refine n_fa ?_)|(apply f_ld;first|refine zh2 ?_|refine n_ld ?_)|(apply f_ca;refine zv7 ch ?_)|(apply f_ia;refine za7 ?_)|(apply zs19;refine zl5 ?_)|(apply f_no;refine zu7 ?_)|refine zf2 ?_)|(apply f_w;first|refine za1 ?_|refine zd ?_)|(apply d_wo;first|(apply d_mv;refine zo3 ?_)|(apply d_fa;refine o_fa ?_)|(apply d_ld;first|refine zx4 ?_|refine o_ld ?_)|(apply d_st;refine zk21 ?_)|(apply d_ia;refine zl21 ?_)|(apply d_bb;refine zx6 ?_)|refine zo3 ?_)|(apply d_w;first|refine za1 ?_|refine zd ?_)|refine zc fun C=>?_|refine zq1 (by kernel_rfl) (by kernel_rfl) fun C=>?_|refine zp ?_|refine zl1 ?_|refine zw3 rfl ?_)
   refine zj1 (by rfl) (fun hC=>?_) fun hC=>absurd (ne_of_beq_false hC) (by omega)
   repeat' (first|(apply f_wo;first|(apply f_mv;refine zt1 (v:=.c _) ?_)|(apply f_fa;refine n_fa ?_)|(apply f_ld;refine zh2 ?_)|(apply f_st;refine zb9 ?_)|(apply f_ia;refine za7 ?_)|refine zf2 ?_)|(apply f_w;first|refine za1 ?_|refine zd ?_)|refine zc fun C=>?_)
   refine⟨_,ze3 (i:=0) (j:=100) rfl rfl rfl (pre:=[]) (post:=R) rfl,?_⟩
   refine retL (x:=.tu []) (cs:=.ow 110 l.length 4 (spl (spl (owL l) (i*4+0) [.v (.int .i64 (r-1))]) (i*4+1) [.v (.int .i64 0),.v (.int .i64 0),.v (.string ByteArray.empty)]) :: R) rfl rfl rfl ?_ rfl ⟨rfl,?_⟩
   ·rw [e2];simp [cloL,clo,zj,hR]
   ·rw [e2];simp [heapE,owE,owL]
  ·rw [if_neg hz]
   repeat' (first|(apply f_wo;first|(apply f_mv;refine zt1 (v:=.c _) ?_)|(apply f_fa;refine n_fa ?_)|(apply f_ld;first|refine zh2 ?_|refine n_ld ?_)|(apply f_ca;refine zv7 ch ?_)|(apply f_ia;refine za7 ?_)|(apply zs19;refine zl5 ?_)|(apply f_no;refine zu7 ?_)|refine zf2 ?_)|(apply f_w;first|refine za1 ?_|refine zd ?_)|(apply d_wo;first|(apply d_mv;refine zo3 ?_)|(apply d_fa;refine o_fa ?_)|(apply d_ld;first|refine zx4 ?_|refine o_ld ?_)|(apply d_st;refine zk21 ?_)|(apply d_ia;refine zl21 ?_)|(apply d_bb;refine zx6 ?_)|refine zo3 ?_)|(apply d_w;first|refine za1 ?_|refine zd ?_)|refine zc fun C=>?_|refine zq1 (by kernel_rfl) (by kernel_rfl) fun C=>?_|refine zp ?_|refine zl1 ?_|refine zw3 rfl ?_)
   refine zj1 (by rfl) (fun hC=>absurd (eq_of_beq hC) hz) fun hC=>?_
   repeat' (refine zl1 ?_)
   refine⟨_,ze3 (i:=0) (j:=100) rfl rfl rfl (pre:=[]) (post:=R) rfl,?_⟩
   refine retL (x:=.tu []) (cs:=.ow 110 l.length 4 (spl (owL l) (i*4+0) [.v (.int .i64 (r-1))]) :: R) rfl rfl rfl ?_ rfl ⟨rfl,?_⟩
   ·rw [e1];simp [cloL,clo,zj,hR]
   ·rw [e1];simp [heapE,owE,owL]
theorem za18 {R:List AC}(hR:cloL R=true){e:E}(he:e.Ty Tryz.prog 37)(hsz:e.sz≤1048576)(k:Int):Ctr Tryz.prog 29 [.c (.pt 0 0),.c (.v (.int .i64 k))] [owE e++R] (.tu []) [owE (heapE (letLE (varsE e) k))++R]:=by
 have ch:=zn22 he hsz k
 obtain⟨x0A,x0c,l,rfl,⟨hl,hk⟩,-⟩:=zo1 he
 have hlen:l.length≤1048576:=by simp only [E.sz,E.szL] at hsz;omega
 rw [show varsE (E.agg [.lst 4 110 x0A x0c l])=l from rfl] at ch ⊢
 cases hb:heldLE l k with
 | false =>
  rw [hb] at ch
  rw [zj9 hb]
  refine zm2 Tryz.func29 rfl rfl ?_
  refine zk2 (zt7 100 (i:=0) rfl rfl (pre:=[]) (post:=R) rfl) ?_
  refine zg6 ?_
  repeat' (first|(apply f_wo;first|(apply f_mv;refine zt1 (v:=.c _) ?_)|(apply f_ca;refine zv7 ch ?_)|(apply f_no;refine zu7 ?_)|refine zf2 ?_)|(apply f_w;first|refine za1 ?_|refine zd ?_)|refine zc fun C=>?_|refine zp ?_|refine zc5 rfl ?_)
  refine zo2 ?_
  refine⟨_,ze3 (i:=0) (j:=100) rfl rfl rfl (pre:=[]) (post:=R) rfl,?_⟩
  refine retL (x:=.tu []) (cs:=.ow 110 l.length 4 (owL l) :: R) rfl rfl rfl ?_ rfl ⟨rfl,rfl⟩
  simp [cloL,clo,zj,hR]
 | true =>
  rw [hb] at ch
  obtain⟨i,r,v0,v1,v2,rfl,hlt,hx,hr,hr2⟩:=zk9 hl hb
  rw [ze7 hx hr]
  have hw:IntKind.i64.wrap (r-1)=r-1:=by rw [IntKind.wrap_i64];omega
  have hs1:subL (owL l) (i*4+0) 1=[.v (.int .i64 r)]:=zr13 hk hx (by omega)
  have hle:i*4+0+1≤(owL l).length:=zx8 (j:=0) hk hlt (by omega)
  have e1:spl (owL l) (i*4+0) [.v (.int .i64 (r-1))]=owL (l.set i (.agg [.int .i64 (r-1),.agg [.int .i64 v0,.int .i64 v1,.str v2]])):=zw8 hk hx (by simp) rfl
  have hk':∀e∈l.set i (.agg [.int .i64 (r-1),.agg [.int .i64 v0,.int .i64 v1,.str v2]]),e.enc.length=4:=fun e he=>by
   rcases List.mem_or_eq_of_mem_set he with h|rfl
   ·exact hk e h
   ·rfl
  have hx':(l.set i (.agg [.int .i64 (r-1),.agg [.int .i64 v0,.int .i64 v1,.str v2]]))[i]? = some (.agg [.int .i64 (r-1),.agg [.int .i64 v0,.int .i64 v1,.str v2]]):=List.getElem?_set_self hlt
  have hs2:subL (spl (owL l) (i*4+0) [.v (.int .i64 (r-1))]) (i*4+0) 1=[.v (.int .i64 (r-1))]:=by rw [e1];exact zr13 hk' hx' (by omega)
  have hle2:i*4+1+3≤(spl (owL l) (i*4+0) [.v (.int .i64 (r-1))]).length:=by rw [e1];exact zx8 (j:=1) hk' (by simpa using hlt) (by omega)
  have e2:spl (spl (owL l) (i*4+0) [.v (.int .i64 (r-1))]) (i*4+1) [.v (.int .i64 0),.v (.int .i64 0),.v (.string ByteArray.empty)]=owL (l.set i (.agg [.int .i64 (r-1),zVal])):=by
   rw [e1,zw8 hk' hx' (x':=.agg [.int .i64 (r-1),zVal]) (by simp) rfl,List.set_set]
  refine zm2 Tryz.func29 rfl rfl ?_
  refine zk2 (zt7 100 (i:=0) rfl rfl (pre:=[]) (post:=R) rfl) ?_
  refine zg6 ?_
  by_cases hz:r-1=0
  ·rw [if_pos hz]
   repeat' (first|(apply f_wo;first|(apply f_mv;refine zt1 (v:=.c _) ?_)|(apply f_fa;refine n_fa ?_)|(apply f_ld;first|refine zh2 ?_|refine n_ld ?_)|(apply f_ca;refine zv7 ch ?_)|(apply f_st;refine zb9 ?_)|(apply f_ia;refine za7 ?_)|(apply zs19;refine zl5 ?_)|(apply f_no;refine zu7 ?_)|(apply f_bb;refine zk5 ?_)|refine zf2 ?_)|(apply f_w;first|refine za1 ?_|refine zd ?_)|refine zc fun C=>?_|refine zp ?_|refine zl1 ?_|refine zw3 rfl ?_)
   refine zj1 (by rfl) (fun hC=>?_) fun hC=>absurd (ne_of_beq_false hC) (by omega)
   repeat' (first|(apply f_wo;first|(apply f_mv;refine zt1 (v:=.c _) ?_)|(apply f_fa;refine n_fa ?_)|(apply f_ld;refine zh2 ?_)|(apply f_st;refine zb9 ?_)|(apply f_ia;refine za7 ?_)|refine zf2 ?_)|(apply f_w;first|refine za1 ?_|refine zd ?_)|refine zc fun C=>?_)
   refine⟨_,ze3 (i:=0) (j:=100) rfl rfl rfl (pre:=[]) (post:=R) rfl,?_⟩
   refine retL (x:=.tu []) (cs:=.ow 110 l.length 4 (spl (spl (owL l) (i*4+0) [.v (.int .i64 (r-1))]) (i*4+1) [.v (.int .i64 0),.v (.int .i64 0),.v (.string ByteArray.empty)]) :: R) rfl rfl rfl ?_ rfl ⟨rfl,?_⟩
   ·rw [e2];simp [cloL,clo,zj,hR]
   ·rw [e2];simp [heapE,owE,owL]
  ·rw [if_neg hz]
   repeat' (first|(apply f_wo;first|(apply f_mv;refine zt1 (v:=.c _) ?_)|(apply f_fa;refine n_fa ?_)|(apply f_ld;first|refine zh2 ?_|refine n_ld ?_)|(apply f_ca;refine zv7 ch ?_)|(apply f_st;refine zb9 ?_)|(apply f_ia;refine za7 ?_)|(apply zs19;refine zl5 ?_)|(apply f_no;refine zu7 ?_)|(apply f_bb;refine zk5 ?_)|refine zf2 ?_)|(apply f_w;first|refine za1 ?_|refine zd ?_)|refine zc fun C=>?_|refine zp ?_|refine zl1 ?_|refine zw3 rfl ?_)
   refine zj1 (by rfl) (fun hC=>absurd (eq_of_beq hC) hz) fun hC=>?_
   repeat' (refine zl1 ?_)
   refine⟨_,ze3 (i:=0) (j:=100) rfl rfl rfl (pre:=[]) (post:=R) rfl,?_⟩
   refine retL (x:=.tu []) (cs:=.ow 110 l.length 4 (spl (owL l) (i*4+0) [.v (.int .i64 (r-1))]) :: R) rfl rfl rfl ?_ rfl ⟨rfl,?_⟩
   ·rw [e1];simp [cloL,clo,zj,hR]
   ·rw [e1];simp [heapE,owE,owL]
end Go.Proofs.YtfemkmnkofgaaaaGreat
