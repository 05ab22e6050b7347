/- letAll, letSlots: many cells let go in the heap at the head of a bigger row. -/
import Derived.Test.YtfemkmnkofgaaaaGreatClearV
namespace Go.Proofs.YtfemkmnkofgaaaaGreat
open Go.RowKit
set_option maxRecDepth 100000
def HpOk (l:List E):Prop:=(∀e∈l,e.Ty Tryz.prog 110)∧(∀e∈l,e.enc.length=4)∧l.length+E.szL l≤1048576
theorem HpOk.ty {l:List E}(h:HpOk l):(heapE l).Ty Tryz.prog 37:=E.Ty.mk_agg Tryz.underlying37 (E.TyF.mk_cons (E.Ty.mk_lst Tryz.underlying35 (by kernel_rfl) h.1 h.2.1) E.TyF.mk_nil)
theorem HpOk.sz {l:List E}(h:HpOk l):(heapE l).sz≤1048576:=by have:=h.2.2;simp only [heapE,E.sz,E.szL];omega
theorem zg8:∀(l:List E) (k:Nat) (x y:E),l[k]? = some y→x.sz≤y.sz→E.szL (l.set k x)≤E.szL l
 | [],k,x,y,h,_=>by simp at h
 | e :: r,0,x,y,h,hx=>by simp at h;subst h;simp only [List.set_cons_zero,E.szL];omega
 | e :: r,k+1,x,y,h,hx=>by
  simp only [List.set_cons_succ,E.szL]
  have:=zg8 r k x y (by simpa using h) hx
  omega
theorem zh6 {x:Int}(h0 : -9223372036854775808≤x)(h1:x≤9223372036854775807):(Lit.int .i64 x).wf=true:=by
 have e1:IntKind.i64.min = -9223372036854775808:=by decide
 have e2:IntKind.i64.max=9223372036854775807:=by decide
 simp only [Lit.wf,Bool.and_eq_true,decide_eq_true_iff]
 rw [e1,e2]
 omega
theorem zl3 {x:Int}(h:(Lit.int .i64 x).wf=true):(E.int .i64 x).Ty Tryz.prog 3:=by simp only [E.Ty];exact⟨Tryz.underlying3,h⟩
theorem HpOk.let_ {l:List E}(h:HpOk l)(k:Int):HpOk (letLE l k):=by
 obtain⟨hl,hk,hz⟩:=h
 cases hb:heldLE l k with
 | false=>rw [zj9 hb];exact⟨hl,hk,hz⟩
 | true =>
  obtain⟨i,r,v0,v1,v2,rfl,hlt,hx,hr,hr2⟩:=zk9 hl hb
  rw [ze7 hx hr]
  have hty:=hl _ (List.mem_of_getElem? hx)
  obtain⟨y0,y1,y2,y3,he,g0,g1,g2,g3,-⟩:=zn1 hty
  cases he
  have hx':(E.agg [.int .i64 (r-1),if r-1=0 then zVal else .agg [.int .i64 v0,.int .i64 v1,.str v2]]).Ty Tryz.prog 110∧(E.agg [.int .i64 (r-1),if r-1=0 then zVal else .agg [.int .i64 v0,.int .i64 v1,.str v2]]).enc.length=4∧(E.agg [.int .i64 (r-1),if r-1=0 then zVal else .agg [.int .i64 v0,.int .i64 v1,.str v2]]).sz≤(E.agg [.int .i64 r,.agg [.int .i64 v0,.int .i64 v1,.str v2]]).sz:=by
   split
   ·refine⟨E.Ty.mk_agg Tryz.underlying110 (E.TyF.mk_cons (zl3 (zh6 (by omega) (by omega))) (E.TyF.mk_cons (E.Ty.mk_agg Tryz.underlying108 (E.TyF.mk_cons (zl3 (zh6 (by omega) (by omega))) (E.TyF.mk_cons (zl3 (zh6 (by omega) (by omega))) (E.TyF.mk_cons (by simp only [E.Ty];exact⟨Tryz.underlying9,by decide⟩) E.TyF.mk_nil)))) E.TyF.mk_nil)),rfl,?_⟩
    simp only [zVal,E.sz,E.szL]
    have:ByteArray.empty.size=0:=rfl
    omega
   ·exact⟨E.Ty.mk_agg Tryz.underlying110 (E.TyF.mk_cons (zl3 (zh6 (by omega) (by omega))) (E.TyF.mk_cons (E.Ty.mk_agg Tryz.underlying108 (E.TyF.mk_cons (zl3 g1) (E.TyF.mk_cons (zl3 g2) (E.TyF.mk_cons (by simp only [E.Ty];exact⟨Tryz.underlying9,by unfold maxLen;omega⟩) E.TyF.mk_nil)))) E.TyF.mk_nil)),rfl,Nat.le_refl _⟩
  refine⟨fun e he=>?_,fun e he=>?_,?_⟩
  ·rcases List.mem_or_eq_of_mem_set he with h|rfl
   ·exact hl e h
   ·exact hx'.1
  ·rcases List.mem_or_eq_of_mem_set he with h|rfl
   ·exact hk e h
   ·exact hx'.2.1
  ·have:=zg8 l i _ _ hx hx'.2.2
   rw [List.length_set]
   omega
def intE:E→Int
 | .int _ z=>z
 | _=>0
def letAllE (l:List E)(ks:List E):List E:=ks.foldl (fun a e=>letLE a (intE e)) l
theorem HpOk.letAll {l:List E}(h:HpOk l):∀ks:List E,HpOk (letAllE l ks):=fun ks=>by
 induction ks generalizing l with
 | nil=>exact h
 | cons x r ih=>exact ih (h.let_ (intE x))
theorem zb3 {f:List E→E→List E}{l:List E}(ks:List E)(ok:List E→Prop)(h0:ok l)(hs:∀a x,ok a→ok (f a x)):∃H:Nat→List E,H 0=l∧(∀k x,ks[k]? = some x→f (H k) x=H (k+1))∧H ks.length=ks.foldl f l∧∀k,ok (H k):=by
 refine⟨fun k=>(ks.take k).foldl f l,rfl,fun k x hx=>?_,by simp,fun k=>?_⟩
 ·dsimp only;rw [List.take_add_one,hx];simp
 ·dsimp only
  generalize ks.take k=m
  induction m generalizing l with
  | nil=>exact h0
  | cons x r ih=>exact ih (hs _ x h0)
theorem zc1 {R:List AC}{T:TypeId}{n k:Nat}{l:List E}(hR:cloL R=true):cloL (.ow T n k (owL l) :: R)=true:=by simp [cloL,clo,zj,hR]
set_option maxHeartbeats 2000000 in
theorem zv9 {R:List AC}(hR:cloL R=true){l:List E}(hl:HpOk l){ks:List E}(hks:∀e∈ks,e.Ty Tryz.prog 3)(hk1:∀e∈ks,e.enc.length=1)(hn:ks.length≤1048576):Ctr Tryz.prog 28 [.c (.pt 0 0),.c (.ro ks.length 1 (acL ks))] [.ow 110 l.length 4 (owL l) :: R] (.tu []) [.ow 110 (letAllE l ks).length 4 (owL (letAllE l ks)) :: R]:=by
 obtain⟨H,H0,Hs,Hl,Hok⟩:=zb3 (f:=fun a e=>letLE a (intE e)) ks HpOk hl (fun a x h=>h.let_ (intE x))
 rw [show letAllE l ks=ks.foldl (fun a e=>letLE a (intE e)) l from rfl,←Hl,←H0]
 clear Hl H0 hl
 refine zm2 Tryz.func28 rfl rfl ?_
 repeat' (first|(apply f_wo;first|(apply f_mv;refine zt1 (v:=.c _) ?_)|(apply f_bi;refine zi2 ?_))|(apply f_w;first|refine za1 ?_|refine zd ?_)|refine zc fun C=>?_|refine zp ?_|refine zw ?_)
 refine zw1 (fun k:Nat=>⟨tmsF [(0,.c (.pt 0 0)),(6,.c (.ro ks.length 1 (acL ks))),(7,.c (.v (.int .i64 ks.length))),(8,.c (.v (.int .i64 k)))],hpsF [(0,0,⟨0,0,0,true,.ow 110 (H k).length 4 (owL (H k)) :: R⟩)],1,[0],16⟩)
  (fun N k=>k+N=ks.length) ks.length 0 (by omega) ?_ ?_
 ·have hcl:=zc1 (T:=110) (n:=(H 0).length) (k:=4) (l:=H 0) hR
  (refine zm1 _ _ rfl rfl ?_ ?_<;>(repeat' (first|exact TmOk.nil|exact RwOk.nil|refine TmOk.cons ?_ ?_|refine RwOk.cons ?_ ?_|rfl|exact zr rfl (by assumption)|(refine rnV_id' rfl ?_;exact byc)|(refine zu1 ?_;first|rfl|omega|(rw [zy (by omega) (by omega)];omega))|(refine zr rfl ?_;exact byc)|exact zj2 rfl rfl|(refine zv1 (by rfl) (by rfl) ?_ ?_<;>exact byc)|(refine rw_rn' rfl rfl ?_;simp;done))))
 rintro N k hN
 try dsimp only
 repeat' (first|(apply f_wo;(apply zf3;refine zf1 ?_))|(apply f_w;first|refine za1 ?_|refine zd ?_)|refine zc fun C=>?_|refine zp ?_)
 refine zj1 (by rfl) (fun hk'=>?_) fun hk'=>?_
 ·have hlt:k<ks.length:=by simpa using hk'
  obtain⟨x,hx⟩:∃x,ks[k]? = some x:=⟨_,List.getElem?_eq_getElem hlt⟩
  have hHs:=Hs k x hx
  obtain⟨z,rfl,-⟩:=(hks x (List.mem_of_getElem? hx)).int_ Tryz.underlying3
  have c7:=za18 hR (Hok k).ty (Hok k).sz z
  have c8:Ctr Tryz.prog 29 [.c (.pt 0 0),.c (.v (.int .i64 z))] [.ow 110 (H k).length 4 (owL (H k)) :: R] (.tu []) [.ow 110 (H (k+1)).length 4 (owL (H (k+1))) :: R]:=by rw [←hHs];exact c7
  have hcl:=zc1 (T:=110) (n:=(H k).length) (k:=4) (l:=H k) hR
  repeat' (first|(apply f_wo;first|(apply f_mv;refine zt1 (v:=.c _) ?_)|(apply f_as;refine zp2 (v:=.c _) ?_)|(apply f_ld;refine zn4 ?_)|(apply f_ca;refine zb6 0 (c8) ?_ (hl:=zr4 (by rfl) hcl))|(apply f_ia;refine n_ix ?_)|(apply zm3;refine zh1 ?_))|(apply f_w;first|refine za1 ?_|refine zd ?_)|refine zc fun C=>?_|refine zp ?_|refine zw ?_|refine zl1 ?_)
  have hcl2:=zc1 (T:=110) (n:=(H (k+1)).length) (k:=4) (l:=H (k+1)) hR
  refine⟨N-1,k+1,by omega,by omega,?_⟩
  (refine zm1 _ _ rfl rfl ?_ ?_<;>(repeat' (first|exact TmOk.nil|exact RwOk.nil|refine TmOk.cons ?_ ?_|refine RwOk.cons ?_ ?_|rfl|exact zr rfl (by assumption)|(refine rnV_id' rfl ?_;exact byc)|(refine zu1 ?_;first|rfl|omega|(rw [zy (by omega) (by omega)];omega))|(refine zr rfl ?_;exact byc)|exact zj2 rfl rfl|(refine zv1 (by rfl) (by rfl) ?_ ?_<;>exact byc)|(refine rw_rn' rfl rfl ?_;simp;done))))
 ·obtain rfl:k=ks.length:=by have:¬k<ks.length:=by simpa using hk'
                             omega
  repeat' (refine zy1 ?_)
  refine retL (x:=.tu []) rfl rfl rfl (zc1 hR) rfl ⟨rfl,rfl⟩
def slotF (a:List E):E→List E
 | .agg [.bool b,.int _ z]=>if b then a else letLE a z
 | _=>a
theorem HpOk.slot {l:List E}(h:HpOk l)(e:E):HpOk (slotF l e):=by
 unfold slotF
 split
 ·split
  ·exact h
  ·exact h.let_ _
 ·exact h
def letSlotsE (l:List E)(ks:List E):List E:=ks.foldl slotF l
set_option maxHeartbeats 2000000 in
theorem zh15 {R:List AC}(hR:cloL R=true){l:List E}(hl:HpOk l){ks:List E}(hks:∀e∈ks,e.Ty Tryz.prog 102)(hk1:∀e∈ks,e.enc.length=2)(hn:ks.length≤1048576):Ctr Tryz.prog 64 [.c (.pt 0 0),.c (.ro ks.length 2 (acL ks))] [.ow 110 l.length 4 (owL l) :: R] (.tu []) [.ow 110 (letSlotsE l ks).length 4 (owL (letSlotsE l ks)) :: R]:=by
 obtain⟨H,H0,Hs,Hl,Hok⟩:=zb3 (f:=slotF) ks HpOk hl (fun a x h=>h.slot x)
 rw [show letSlotsE l ks=ks.foldl slotF l from rfl,←Hl,←H0]
 clear Hl H0 hl
 refine zm2 Tryz.func64 rfl rfl ?_
 repeat' (first|(apply f_wo;first|(apply f_mv;refine zt1 (v:=.c _) ?_)|(apply f_bi;refine zi2 ?_))|(apply f_w;first|refine za1 ?_|refine zd ?_)|refine zc fun C=>?_|refine zp ?_|refine zw ?_)
 refine zw1 (fun k:Nat=>⟨tmsF [(0,.c (.pt 0 0)),(6,.c (.ro ks.length 2 (acL ks))),(7,.c (.v (.int .i64 ks.length))),(8,.c (.v (.int .i64 k)))],hpsF [(0,0,⟨0,0,0,true,.ow 110 (H k).length 4 (owL (H k)) :: R⟩)],1,[0],20⟩)
  (fun N k=>k+N=ks.length) ks.length 0 (by omega) ?_ ?_
 ·have hcl:=zc1 (T:=110) (n:=(H 0).length) (k:=4) (l:=H 0) hR
  (refine zm1 _ _ rfl rfl ?_ ?_<;>(repeat' (first|exact TmOk.nil|exact RwOk.nil|refine TmOk.cons ?_ ?_|refine RwOk.cons ?_ ?_|rfl|exact zr rfl (by assumption)|(refine rnV_id' rfl ?_;exact byc)|(refine zu1 ?_;first|rfl|omega|(rw [zy (by omega) (by omega)];omega))|(refine zr rfl ?_;exact byc)|exact zj2 rfl rfl|(refine zv1 (by rfl) (by rfl) ?_ ?_<;>exact byc)|(refine rw_rn' rfl rfl ?_;simp;done))))
 rintro N k hN
 try dsimp only
 repeat' (first|(apply f_wo;(apply zf3;refine zf1 ?_))|(apply f_w;first|refine za1 ?_|refine zd ?_)|refine zc fun C=>?_|refine zp ?_)
 refine zj1 (by rfl) (fun hk'=>?_) fun hk'=>?_
 ·have hlt:k<ks.length:=by simpa using hk'
  obtain⟨x,hx⟩:∃x,ks[k]? = some x:=⟨_,List.getElem?_eq_getElem hlt⟩
  have hHs:=Hs k x hx
  obtain⟨z0,z1,rfl,-⟩:=zx1 (hks x (List.mem_of_getElem? hx))
  have hcl:=zc1 (T:=110) (n:=(H k).length) (k:=4) (l:=H k) hR
  have hcl2:=zc1 (T:=110) (n:=(H (k+1)).length) (k:=4) (l:=H (k+1)) hR
  cases z0 with
  | true =>
   rw [show slotF (H k) (.agg [.bool true,.int .i64 z1])=H k from rfl] at hHs
   repeat' (first|(apply f_wo;first|(apply f_mv;refine zt1 (v:=.c _) ?_)|(apply f_fa;refine n_fa ?_)|(apply f_ld;first|refine zh2 ?_|refine zu3 ?_)|(apply f_st;refine n_st ?_)|(apply f_ia;refine n_ix ?_)|(apply zm3;refine zh1 ?_)|(apply f_no;refine zu7 ?_)|refine n_al ?_)|(apply f_w;first|refine za1 ?_|refine zd ?_)|refine zc fun C=>?_|refine zp ?_|refine zw ?_|refine zl1 ?_|refine zw3 rfl ?_)
   refine⟨N-1,k+1,by omega,by omega,?_⟩
   rw [←hHs]
   (refine zm1 _ _ rfl rfl ?_ ?_<;>(repeat' (first|exact TmOk.nil|exact RwOk.nil|refine TmOk.cons ?_ ?_|refine RwOk.cons ?_ ?_|rfl|exact zr rfl (by assumption)|(refine rnV_id' rfl ?_;exact byc)|(refine zu1 ?_;first|rfl|omega|(rw [zy (by omega) (by omega)];omega))|(refine zr rfl ?_;exact byc)|exact zj2 rfl rfl|(refine zv1 (by rfl) (by rfl) ?_ ?_<;>exact byc)|(refine rw_rn' rfl rfl ?_;simp;done))))
  | false =>
   rw [show slotF (H k) (.agg [.bool false,.int .i64 z1])=letLE (H k) z1 from rfl] at hHs
   have c7:=za18 hR (Hok k).ty (Hok k).sz z1
   have c8:Ctr Tryz.prog 29 [.c (.pt 0 0),.c (.v (.int .i64 z1))] [.ow 110 (H k).length 4 (owL (H k)) :: R] (.tu []) [.ow 110 (H (k+1)).length 4 (owL (H (k+1))) :: R]:=by rw [←hHs];exact c7
   repeat' (first|(apply f_wo;first|(apply f_mv;refine zt1 (v:=.c _) ?_)|(apply f_fa;refine n_fa ?_)|(apply f_ld;first|refine zh2 ?_|refine zu3 ?_)|(apply f_ca;refine zb6 0 (c8) ?_ (hl:=zr4 (by rfl) hcl))|(apply f_st;refine n_st ?_)|(apply f_ia;refine n_ix ?_)|(apply zm3;refine zh1 ?_)|(apply f_no;refine zu7 ?_)|refine n_al ?_)|(apply f_w;first|refine za1 ?_|refine zd ?_)|refine zc fun C=>?_|refine zp ?_|refine zw ?_|refine zl1 ?_|refine zc5 rfl ?_)
   refine⟨N-1,k+1,by omega,by omega,?_⟩
   (refine zm1 _ _ rfl rfl ?_ ?_<;>(repeat' (first|exact TmOk.nil|exact RwOk.nil|refine TmOk.cons ?_ ?_|refine RwOk.cons ?_ ?_|rfl|exact zr rfl (by assumption)|(refine rnV_id' rfl ?_;exact byc)|(refine zu1 ?_;first|rfl|omega|(rw [zy (by omega) (by omega)];omega))|(refine zr rfl ?_;exact byc)|exact zj2 rfl rfl|(refine zv1 (by rfl) (by rfl) ?_ ?_<;>exact byc)|(refine rw_rn' rfl rfl ?_;simp;done))))
 ·obtain rfl:k=ks.length:=by have:¬k<ks.length:=by simpa using hk'
                             omega
  repeat' (refine zy1 ?_)
  refine retL (x:=.tu []) rfl rfl rfl (zc1 hR) rfl ⟨rfl,rfl⟩
def iterF (a:List E):E→List E
 | .agg [.lst _ _ _ _ ks,.int _ at_]=>letAllE a (ks.drop at_.toNat)
 | _=>a
theorem HpOk.iter {l:List E}(h:HpOk l)(e:E):HpOk (iterF l e):=by
 unfold iterF
 split
 ·exact h.letAll _
 ·exact h
set_option maxHeartbeats 4000000 in
theorem zj11 {R:List AC}(hR:cloL R=true){l:List E}(hl:HpOk l){ks:List E}(hks:∀e∈ks,e.Ty Tryz.prog 3)(hk1:∀e∈ks,e.enc.length=1)(hn:ks.length≤1048576)(at_:Int):Ctr Tryz.prog 55 [.c (.pt 0 0),.ag [.ro ks.length 1 (acL ks),.v (.int .i64 at_)]] [.ow 110 l.length 4 (owL l) :: R] (.tu []) [.ow 110 (letAllE l (ks.drop at_.toNat)).length 4 (owL (letAllE l (ks.drop at_.toNat))) :: R]:=by
 by_cases hat:at_<0
 ·rw [show at_.toNat=0 by omega]
  obtain⟨H,H0,Hs,Hl,Hok⟩:=zb3 (f:=fun a e=>letLE a (intE e)) (ks.drop 0) HpOk hl (fun a x h=>h.let_ (intE x))
  rw [show letAllE l (ks.drop 0)=(ks.drop 0).foldl (fun a e=>letLE a (intE e)) l from rfl,←Hl,←H0]
  clear Hl H0 hl
  refine zm2 Tryz.func55 rfl rfl ?_
  repeat' (first|(apply f_wo;first|(apply f_mv;refine zt1 (v:=.c _) ?_)|(apply f_as;refine zp2 (v:=.c _) ?_)|(apply f_fa;refine n_fa ?_)|(apply f_ld;refine zh2 ?_)|(apply zf3;refine zf1 ?_)|refine n_bo ?_)|(apply f_w;first|refine za1 ?_|refine zd ?_)|refine zc fun C=>?_|refine zp ?_)
  refine zj1 (by rfl) (fun hC=>?_) fun hC=>absurd (of_decide_eq_false hC) (by omega)
  repeat' (first|(apply f_wo;first|(apply f_mv;refine zt1 (v:=.c _) ?_)|(apply f_as;refine zp2 (v:=.c _) ?_))|(apply f_w;first|refine za1 ?_|refine zd ?_)|refine zc fun C=>?_|refine zp ?_|refine zw ?_)
  refine zw1 (fun j:Nat=>⟨tmsF [(0,.c (.pt 0 0)),(3,.c (.pt 3 0)),(5,.c (.v (.int .i64 ((0+j:Nat):Int))))],hpsF [(0,0,⟨0,0,0,true,.ow 110 (H j).length 4 (owL (H j)) :: R⟩),(3,3,⟨105,0,0,true,[.ro ks.length 1 (acL ks),.v (.int .i64 at_)]⟩)],1,[0,3],27⟩)
   (fun N j=>j+N=(ks.drop 0).length) (ks.drop 0).length 0 (by omega) ?_ ?_
  ·have hcl:=zc1 (T:=110) (n:=(H 0).length) (k:=4) (l:=H 0) hR
   (refine zm1 _ _ rfl rfl ?_ ?_<;>(repeat' (first|exact TmOk.nil|exact RwOk.nil|refine TmOk.cons ?_ ?_|refine RwOk.cons ?_ ?_|rfl|exact zr rfl (by assumption)|(refine rnV_id' rfl ?_;exact byc)|(refine zu1 ?_;first|rfl|omega|(rw [zy (by omega) (by omega)];omega))|(refine zr rfl ?_;exact byc)|exact zj2 rfl rfl|(refine zv1 (by rfl) (by rfl) ?_ ?_<;>exact byc)|(refine rw_rn' rfl rfl ?_;simp;done))))
  rintro N j hN
  rw [List.length_drop] at hN
  try dsimp only
  repeat' (first|(apply f_wo;first|(apply f_mv;refine zt1 (v:=.c _) ?_)|(apply f_fa;refine n_fa ?_)|(apply f_ld;refine zh2 ?_)|(apply f_bi;refine zi2 ?_)|(apply zf3;refine zf1 ?_))|(apply f_w;first|refine za1 ?_|refine zd ?_)|refine zc fun C=>?_|refine zp ?_)
  refine zj1 (by rfl) (fun hk'=>?_) fun hk'=>?_
  ·have hlt:0+j<ks.length:=by have:=of_decide_eq_true hk';omega
   obtain⟨x,hx⟩:∃x,ks[0+j]? = some x:=⟨_,List.getElem?_eq_getElem hlt⟩
   have hHs:=Hs j x (by rw [List.getElem?_drop];exact hx)
   obtain⟨z,rfl,-⟩:=(hks x (List.mem_of_getElem? hx)).int_ Tryz.underlying3
   have c7:=zo4 hR (Hok j).ty (Hok j).sz z
   have c8:Ctr Tryz.prog 19 [.c (.pt 0 0),.c (.v (.int .i64 z))] [.ow 110 (H j).length 4 (owL (H j)) :: R] (.tu []) [.ow 110 (H (j+1)).length 4 (owL (H (j+1))) :: R]:=by rw [←hHs];exact c7
   have hcl:=zc1 (T:=110) (n:=(H j).length) (k:=4) (l:=H j) hR
   have hcl2:=zc1 (T:=110) (n:=(H (j+1)).length) (k:=4) (l:=H (j+1)) hR
   repeat' (first|(apply f_wo;first|(apply f_mv;refine zt1 (v:=.c _) ?_)|(apply f_as;refine zp2 (v:=.c _) ?_)|(apply zm3;refine zh1 ?_))|(apply f_w;first|refine za1 ?_|refine zd ?_)|(apply d_wo;first|(apply d_mv;refine zo3 ?_)|(apply d_fa;refine o_fa ?_)|(apply d_ld;first|refine zx4 ?_|refine zy6 ?_)|(apply d_ca;refine zh17 0 (c8) ?_ (hl:=zr4 (by rfl) hcl))|(apply d_ia;refine o_ix ?_)|refine zo3 ?_)|(apply d_w;first|refine za1 ?_|refine zd ?_)|refine zc fun C=>?_|refine zq1 (by kernel_rfl) (by kernel_rfl) fun C=>?_|refine zp ?_|refine zw ?_|refine zl1 ?_)
   refine⟨N-1,j+1,by omega,by rw [List.length_drop];omega,?_⟩
   (refine zm1 _ _ rfl rfl ?_ ?_<;>(repeat' (first|exact TmOk.nil|exact RwOk.nil|refine TmOk.cons ?_ ?_|refine RwOk.cons ?_ ?_|rfl|exact zr rfl (by assumption)|(refine rnV_id' rfl ?_;exact byc)|(refine zu1 ?_;first|rfl|omega|(rw [zy (by omega) (by omega)];omega))|(refine zr rfl ?_;exact byc)|exact zj2 rfl rfl|(refine zv1 (by rfl) (by rfl) ?_ ?_<;>exact byc)|(refine rw_rn' rfl rfl ?_;simp;done))))
  ·obtain rfl:j=(ks.drop 0).length:=by have:=of_decide_eq_false hk';rw [List.length_drop];omega
   repeat' (refine zy1 ?_)
   refine retL (x:=.tu []) rfl rfl rfl (zc1 hR) rfl ⟨rfl,rfl⟩
 ·obtain⟨a0,rfl⟩:∃a0:Nat,at_=(a0:Int):=⟨at_.toNat,by omega⟩
  rw [Int.toNat_natCast]
  obtain⟨H,H0,Hs,Hl,Hok⟩:=zb3 (f:=fun a e=>letLE a (intE e)) (ks.drop a0) HpOk hl (fun a x h=>h.let_ (intE x))
  rw [show letAllE l (ks.drop a0)=(ks.drop a0).foldl (fun a e=>letLE a (intE e)) l from rfl,←Hl,←H0]
  clear Hl H0 hl
  refine zm2 Tryz.func55 rfl rfl ?_
  repeat' (first|(apply f_wo;first|(apply f_mv;refine zt1 (v:=.c _) ?_)|(apply f_as;refine zp2 (v:=.c _) ?_)|(apply f_fa;refine n_fa ?_)|(apply f_ld;refine zh2 ?_)|(apply zf3;refine zf1 ?_)|refine n_bo ?_)|(apply f_w;first|refine za1 ?_|refine zd ?_)|refine zc fun C=>?_|refine zp ?_)
  refine zj1 (by rfl) (fun hC=>absurd (of_decide_eq_true hC) (by omega)) fun hC=>?_
  repeat' (first|(apply f_wo;first|(apply f_mv;refine zt1 (v:=.c _) ?_)|(apply f_as;refine zp2 (v:=.c _) ?_))|(apply f_w;first|refine za1 ?_|refine zd ?_)|refine zc fun C=>?_|refine zp ?_|refine zw ?_|refine zl1 ?_)
  refine zw1 (fun j:Nat=>⟨tmsF [(0,.c (.pt 0 0)),(3,.c (.pt 3 0)),(5,.c (.v (.int .i64 ((a0+j:Nat):Int))))],hpsF [(0,0,⟨0,0,0,true,.ow 110 (H j).length 4 (owL (H j)) :: R⟩),(3,3,⟨105,0,0,true,[.ro ks.length 1 (acL ks),.v (.int .i64 (a0:Int))]⟩)],1,[0,3],27⟩)
   (fun N j=>j+N=(ks.drop a0).length) (ks.drop a0).length 0 (by omega) ?_ ?_
  ·have hcl:=zc1 (T:=110) (n:=(H 0).length) (k:=4) (l:=H 0) hR
   (refine zm1 _ _ rfl rfl ?_ ?_<;>(repeat' (first|exact TmOk.nil|exact RwOk.nil|refine TmOk.cons ?_ ?_|refine RwOk.cons ?_ ?_|rfl|exact zr rfl (by assumption)|(refine rnV_id' rfl ?_;exact byc)|(refine zu1 ?_;first|rfl|omega|(rw [zy (by omega) (by omega)];omega))|(refine zr rfl ?_;exact byc)|exact zj2 rfl rfl|(refine zv1 (by rfl) (by rfl) ?_ ?_<;>exact byc)|(refine rw_rn' rfl rfl ?_;simp;done))))
  rintro N j hN
  rw [List.length_drop] at hN
  try dsimp only
  repeat' (first|(apply f_wo;first|(apply f_mv;refine zt1 (v:=.c _) ?_)|(apply f_fa;refine n_fa ?_)|(apply f_ld;refine zh2 ?_)|(apply f_bi;refine zi2 ?_)|(apply zf3;refine zf1 ?_))|(apply f_w;first|refine za1 ?_|refine zd ?_)|refine zc fun C=>?_|refine zp ?_)
  refine zj1 (by rfl) (fun hk'=>?_) fun hk'=>?_
  ·have hlt:a0+j<ks.length:=by have:=of_decide_eq_true hk';omega
   obtain⟨x,hx⟩:∃x,ks[a0+j]? = some x:=⟨_,List.getElem?_eq_getElem hlt⟩
   have hHs:=Hs j x (by rw [List.getElem?_drop];exact hx)
   obtain⟨z,rfl,-⟩:=(hks x (List.mem_of_getElem? hx)).int_ Tryz.underlying3
   have c7:=zo4 hR (Hok j).ty (Hok j).sz z
   have c8:Ctr Tryz.prog 19 [.c (.pt 0 0),.c (.v (.int .i64 z))] [.ow 110 (H j).length 4 (owL (H j)) :: R] (.tu []) [.ow 110 (H (j+1)).length 4 (owL (H (j+1))) :: R]:=by rw [←hHs];exact c7
   have hcl:=zc1 (T:=110) (n:=(H j).length) (k:=4) (l:=H j) hR
   have hcl2:=zc1 (T:=110) (n:=(H (j+1)).length) (k:=4) (l:=H (j+1)) hR
   repeat' (first|(apply f_wo;first|(apply f_mv;refine zt1 (v:=.c _) ?_)|(apply f_as;refine zp2 (v:=.c _) ?_)|(apply zm3;refine zh1 ?_))|(apply f_w;first|refine za1 ?_|refine zd ?_)|(apply d_wo;first|(apply d_mv;refine zo3 ?_)|(apply d_fa;refine o_fa ?_)|(apply d_ld;first|refine zx4 ?_|refine zy6 ?_)|(apply d_ca;refine zh17 0 (c8) ?_ (hl:=zr4 (by rfl) hcl))|(apply d_ia;refine o_ix ?_)|refine zo3 ?_)|(apply d_w;first|refine za1 ?_|refine zd ?_)|refine zc fun C=>?_|refine zq1 (by kernel_rfl) (by kernel_rfl) fun C=>?_|refine zp ?_|refine zw ?_|refine zl1 ?_)
   refine⟨N-1,j+1,by omega,by rw [List.length_drop];omega,?_⟩
   (refine zm1 _ _ rfl rfl ?_ ?_<;>(repeat' (first|exact TmOk.nil|exact RwOk.nil|refine TmOk.cons ?_ ?_|refine RwOk.cons ?_ ?_|rfl|exact zr rfl (by assumption)|(refine rnV_id' rfl ?_;exact byc)|(refine zu1 ?_;first|rfl|omega|(rw [zy (by omega) (by omega)];omega))|(refine zr rfl ?_;exact byc)|exact zj2 rfl rfl|(refine zv1 (by rfl) (by rfl) ?_ ?_<;>exact byc)|(refine rw_rn' rfl rfl ?_;simp;done))))
  ·obtain rfl:j=(ks.drop a0).length:=by have:=of_decide_eq_false hk';rw [List.length_drop];omega
   repeat' (refine zy1 ?_)
   refine retL (x:=.tu []) rfl rfl rfl (zc1 hR) rfl ⟨rfl,rfl⟩
def frameF (a:List E):E→List E
 | .agg [_,_,.lst _ _ _ _ loc,.lst _ _ _ _ stk,_,.lst _ _ _ _ its]=>its.foldl iterF (letSlotsE (letAllE a loc) stk)
 | _=>a
set_option maxHeartbeats 4000000 in
theorem zw9 {R:List AC}(hR:cloL R=true){l:List E}(hl:HpOk l){e:E}(he:e.Ty Tryz.prog 60)(hsz:e.sz≤1048576):Ctr Tryz.prog 18 [.c (.pt 0 0),.ag (acE e)] [.ow 110 l.length 4 (owL l) :: R] (.tu []) [.ow 110 (frameF l e).length 4 (owL (frameF l e)) :: R]:=by
 obtain⟨x0,x1,x2A,x2c,loc,x3A,x3c,stk,x4A,x4c,lab,x5A,x5c,its,rfl,-,-,⟨h2,k2⟩,⟨h3,k3⟩,-,⟨h5,k5⟩,-⟩:=zd1 he
 simp only [E.sz,E.szL] at hsz
 rw [show frameF l (E.agg [.int .i64 x0,.int .i64 x1,.lst 1 3 x2A x2c loc,.lst 2 102 x3A x3c stk,.lst 5 148 x4A x4c lab,.lst 2 105 x5A x5c its])=its.foldl iterF (stk.foldl slotF (loc.foldl (fun a e=>letLE a (intE e)) l)) from rfl]
 obtain⟨A,A0,As,Al,Aok⟩:=zb3 (f:=fun a e=>letLE a (intE e)) loc HpOk hl (fun a x h=>h.let_ (intE x))
 rw [←Al]
 obtain⟨B,B0,Bs,Bl,Bok⟩:=zb3 (f:=slotF) (l:=A loc.length) stk HpOk (Aok _) (fun a x h=>h.slot x)
 rw [←Bl]
 obtain⟨D,D0,Ds,Dl,Dok⟩:=zb3 (f:=iterF) (l:=B stk.length) its HpOk (Bok _) (fun a x h=>h.iter x)
 rw [←Dl,←A0]
 have Al:A loc.length=B 0:=B0.symm
 have Bl:B stk.length=D 0:=D0.symm
 clear Dl A0 B0 D0 hl
 refine zm2 Tryz.func18 rfl rfl ?_
 repeat' (first|(apply f_wo;first|(apply f_as;refine zp2 (v:=.c _) ?_)|refine n_bo ?_)|(apply f_w;first|refine za1 ?_|refine zd ?_)|refine zc fun C=>?_|refine zp ?_|refine zw ?_)
 refine zw1 (fun k:Nat=>⟨tmsF [(0,.c (.pt 0 0)),(3,.c (.pt 3 0)),(4,.c (.v (.int .i64 (k:Int))))],hpsF [(0,0,⟨0,0,0,true,.ow 110 (A k).length 4 (owL (A k)) :: R⟩),(3,3,⟨60,0,0,true,[.v (.int .i64 x0),.v (.int .i64 x1),.ro loc.length 1 (acL loc),.ro stk.length 2 (acL stk),.ro lab.length 5 (acL lab),.ro its.length 2 (acL its)]⟩)],1,[0,3],61⟩)
  (fun N k=>k+N=loc.length) loc.length 0 (by omega) ?_ ?_
 ·have hcl:=zc1 (T:=110) (n:=(A 0).length) (k:=4) (l:=A 0) hR
  (refine zm1 _ _ rfl rfl ?_ ?_<;>(repeat' (first|exact TmOk.nil|exact RwOk.nil|refine TmOk.cons ?_ ?_|refine RwOk.cons ?_ ?_|rfl|exact zr rfl (by assumption)|(refine rnV_id' rfl ?_;exact byc)|(refine zu1 ?_;first|rfl|omega|(rw [zy (by omega) (by omega)];omega))|(refine zr rfl ?_;exact byc)|exact zj2 rfl rfl|(refine zv1 (by rfl) (by rfl) ?_ ?_<;>exact byc)|(refine rw_rn' rfl rfl ?_;simp;done))))
 rintro N k hN
 try dsimp only
 repeat' (first|(apply f_wo;first|(apply f_mv;refine zt1 (v:=.c _) ?_)|(apply f_fa;refine n_fa ?_)|(apply f_ld;refine zh2 ?_)|(apply f_bi;refine zi2 ?_)|(apply zf3;refine zf1 ?_))|(apply f_w;first|refine za1 ?_|refine zd ?_)|refine zc fun C=>?_|refine zp ?_)
 refine zj1 (by rfl) (fun hk'=>?_) fun hk'=>?_
 ·have hlt:k<loc.length:=by simpa using hk'
  obtain⟨x,hx⟩:∃x,loc[k]? = some x:=⟨_,List.getElem?_eq_getElem hlt⟩
  have hHs:=As k x hx
  have hcl:=zc1 (T:=110) (n:=(A k).length) (k:=4) (l:=A k) hR
  have hcl2:=zc1 (T:=110) (n:=(A (k+1)).length) (k:=4) (l:=A (k+1)) hR
  obtain⟨z,rfl,-⟩:=(h2 x (List.mem_of_getElem? hx)).int_ Tryz.underlying3
  have c8:Ctr Tryz.prog 19 [.c (.pt 0 0),.c (.v (.int .i64 z))] [.ow 110 (A k).length 4 (owL (A k)) :: R] (.tu []) [.ow 110 (A (k+1)).length 4 (owL (A (k+1))) :: R]:=by rw [←hHs];exact zo4 hR (Aok k).ty (Aok k).sz z
  repeat' (first|(apply f_wo;first|(apply f_mv;refine zt1 (v:=.c _) ?_)|(apply f_as;refine zp2 (v:=.c _) ?_)|(apply zm3;refine zh1 ?_))|(apply f_w;first|refine za1 ?_|refine zd ?_)|(apply d_wo;first|(apply d_mv;refine zo3 ?_)|(apply d_fa;refine o_fa ?_)|(apply d_ld;first|refine zx4 ?_|refine zy6 ?_)|(apply d_ca;refine zh17 0 (c8) ?_ (hl:=zr4 (by rfl) hcl))|(apply d_ia;refine o_ix ?_)|refine zo3 ?_)|(apply d_w;first|refine za1 ?_|refine zd ?_)|refine zc fun C=>?_|refine zq1 (by kernel_rfl) (by kernel_rfl) fun C=>?_|refine zp ?_|refine zw ?_|refine zl1 ?_)
  refine⟨N-1,k+1,by omega,by omega,?_⟩
  (refine zm1 _ _ rfl rfl ?_ ?_<;>(repeat' (first|exact TmOk.nil|exact RwOk.nil|refine TmOk.cons ?_ ?_|refine RwOk.cons ?_ ?_|rfl|exact zr rfl (by assumption)|(refine rnV_id' rfl ?_;exact byc)|(refine zu1 ?_;first|rfl|omega|(rw [zy (by omega) (by omega)];omega))|(refine zr rfl ?_;exact byc)|exact zj2 rfl rfl|(refine zv1 (by rfl) (by rfl) ?_ ?_<;>exact byc)|(refine rw_rn' rfl rfl ?_;simp;done))))
 ·obtain rfl:k=loc.length:=by have h9:¬k<loc.length:=(by simpa using hk');omega
  rw [Al]
  repeat' (first|(apply f_wo;(apply f_as;refine zp2 (v:=.c _) ?_))|(apply f_w;first|refine za1 ?_|refine zd ?_)|refine zc fun C=>?_|refine zp ?_|refine zw ?_|refine zy1 ?_)
  refine zw1 (fun k:Nat=>⟨tmsF [(0,.c (.pt 0 0)),(3,.c (.pt 3 0)),(5,.c (.v (.int .i64 (k:Int))))],hpsF [(0,0,⟨0,0,0,true,.ow 110 (B k).length 4 (owL (B k)) :: R⟩),(3,3,⟨60,0,0,true,[.v (.int .i64 x0),.v (.int .i64 x1),.ro loc.length 1 (acL loc),.ro stk.length 2 (acL stk),.ro lab.length 5 (acL lab),.ro its.length 2 (acL its)]⟩)],1,[0,3],61⟩)
   (fun N k=>k+N=stk.length) stk.length 0 (by omega) ?_ ?_
  ·have hcl:=zc1 (T:=110) (n:=(B 0).length) (k:=4) (l:=B 0) hR
   (refine zm1 _ _ rfl rfl ?_ ?_<;>(repeat' (first|exact TmOk.nil|exact RwOk.nil|refine TmOk.cons ?_ ?_|refine RwOk.cons ?_ ?_|rfl|exact zr rfl (by assumption)|(refine rnV_id' rfl ?_;exact byc)|(refine zu1 ?_;first|rfl|omega|(rw [zy (by omega) (by omega)];omega))|(refine zr rfl ?_;exact byc)|exact zj2 rfl rfl|(refine zv1 (by rfl) (by rfl) ?_ ?_<;>exact byc)|(refine rw_rn' rfl rfl ?_;simp;done))))
  rintro N k hN
  try dsimp only
  repeat' (first|(apply f_wo;first|(apply f_mv;refine zt1 (v:=.c _) ?_)|(apply f_fa;refine n_fa ?_)|(apply f_ld;refine zh2 ?_)|(apply f_bi;refine zi2 ?_)|(apply zf3;refine zf1 ?_))|(apply f_w;first|refine za1 ?_|refine zd ?_)|refine zc fun C=>?_|refine zp ?_)
  refine zj1 (by rfl) (fun hk'=>?_) fun hk'=>?_
  ·have hlt:k<stk.length:=by simpa using hk'
   obtain⟨x,hx⟩:∃x,stk[k]? = some x:=⟨_,List.getElem?_eq_getElem hlt⟩
   have hHs:=Bs k x hx
   have hcl:=zc1 (T:=110) (n:=(B k).length) (k:=4) (l:=B k) hR
   have hcl2:=zc1 (T:=110) (n:=(B (k+1)).length) (k:=4) (l:=B (k+1)) hR
   obtain⟨z0,z1,rfl,-⟩:=zx1 (h3 x (List.mem_of_getElem? hx))
   cases z0 with
   | true =>
    rw [show slotF (B k) (.agg [.bool true,.int .i64 z1])=B k from rfl] at hHs
    repeat' (first|(apply f_wo;first|(apply f_mv;refine zt1 (v:=.c _) ?_)|(apply f_as;refine zp2 (v:=.c _) ?_)|(apply f_fa;first|refine n_fa ?_|refine zb7 ?_)|(apply f_ld;first|refine zh2 ?_|refine zn4 ?_)|(apply f_ia;refine n_ix ?_)|(apply zm3;refine zh1 ?_)|(apply f_no;refine zu7 ?_))|(apply f_w;first|refine za1 ?_|refine zd ?_)|refine zc fun C=>?_|refine zp ?_|refine zw ?_|refine zl1 ?_|refine zw3 rfl ?_)
    refine⟨N-1,k+1,by omega,by omega,?_⟩
    rw [←hHs]
    (refine zm1 _ _ rfl rfl ?_ ?_<;>(repeat' (first|exact TmOk.nil|exact RwOk.nil|refine TmOk.cons ?_ ?_|refine RwOk.cons ?_ ?_|rfl|exact zr rfl (by assumption)|(refine rnV_id' rfl ?_;exact byc)|(refine zu1 ?_;first|rfl|omega|(rw [zy (by omega) (by omega)];omega))|(refine zr rfl ?_;exact byc)|exact zj2 rfl rfl|(refine zv1 (by rfl) (by rfl) ?_ ?_<;>exact byc)|(refine rw_rn' rfl rfl ?_;simp;done))))
   | false =>
    have c8:Ctr Tryz.prog 19 [.c (.pt 0 0),.c (.v (.int .i64 z1))] [.ow 110 (B k).length 4 (owL (B k)) :: R] (.tu []) [.ow 110 (B (k+1)).length 4 (owL (B (k+1))) :: R]:=by rw [←hHs];exact zo4 hR (Bok k).ty (Bok k).sz z1
    repeat' (first|(apply f_wo;first|(apply f_mv;refine zt1 (v:=.c _) ?_)|(apply f_as;refine zp2 (v:=.c _) ?_)|(apply f_fa;first|refine n_fa ?_|refine zb7 ?_)|(apply f_ld;first|refine zh2 ?_|refine zn4 ?_)|(apply f_ia;refine n_ix ?_)|(apply zm3;refine zh1 ?_)|(apply f_no;refine zu7 ?_))|(apply f_w;first|refine za1 ?_|refine zd ?_)|(apply d_wo;first|(apply d_mv;refine zo3 ?_)|(apply d_fa;first|refine o_fa ?_|refine zp19 ?_)|(apply d_ld;first|refine zx4 ?_|refine zy6 ?_)|(apply d_ca;refine zh17 0 (c8) ?_ (hl:=zr4 (by rfl) hcl))|(apply d_ia;refine o_ix ?_)|refine zo3 ?_)|(apply d_w;first|refine za1 ?_|refine zd ?_)|refine zc fun C=>?_|refine zq1 (by kernel_rfl) (by kernel_rfl) fun C=>?_|refine zp ?_|refine zw ?_|refine zl1 ?_|refine zc5 rfl ?_)
    refine⟨N-1,k+1,by omega,by omega,?_⟩
    (refine zm1 _ _ rfl rfl ?_ ?_<;>(repeat' (first|exact TmOk.nil|exact RwOk.nil|refine TmOk.cons ?_ ?_|refine RwOk.cons ?_ ?_|rfl|exact zr rfl (by assumption)|(refine rnV_id' rfl ?_;exact byc)|(refine zu1 ?_;first|rfl|omega|(rw [zy (by omega) (by omega)];omega))|(refine zr rfl ?_;exact byc)|exact zj2 rfl rfl|(refine zv1 (by rfl) (by rfl) ?_ ?_<;>exact byc)|(refine rw_rn' rfl rfl ?_;simp;done))))
  ·obtain rfl:k=stk.length:=by have h9:¬k<stk.length:=(by simpa using hk');omega
   rw [Bl]
   repeat' (first|(apply f_wo;(apply f_as;refine zp2 (v:=.c _) ?_))|(apply f_w;first|refine za1 ?_|refine zd ?_)|refine zc fun C=>?_|refine zp ?_|refine zw ?_|refine zy1 ?_)
   refine zw1 (fun k:Nat=>⟨tmsF [(0,.c (.pt 0 0)),(3,.c (.pt 3 0)),(6,.c (.v (.int .i64 (k:Int))))],hpsF [(0,0,⟨0,0,0,true,.ow 110 (D k).length 4 (owL (D k)) :: R⟩),(3,3,⟨60,0,0,true,[.v (.int .i64 x0),.v (.int .i64 x1),.ro loc.length 1 (acL loc),.ro stk.length 2 (acL stk),.ro lab.length 5 (acL lab),.ro its.length 2 (acL its)]⟩)],1,[0,3],61⟩)
    (fun N k=>k+N=its.length) its.length 0 (by omega) ?_ ?_
   ·have hcl:=zc1 (T:=110) (n:=(D 0).length) (k:=4) (l:=D 0) hR
    (refine zm1 _ _ rfl rfl ?_ ?_<;>(repeat' (first|exact TmOk.nil|exact RwOk.nil|refine TmOk.cons ?_ ?_|refine RwOk.cons ?_ ?_|rfl|exact zr rfl (by assumption)|(refine rnV_id' rfl ?_;exact byc)|(refine zu1 ?_;first|rfl|omega|(rw [zy (by omega) (by omega)];omega))|(refine zr rfl ?_;exact byc)|exact zj2 rfl rfl|(refine zv1 (by rfl) (by rfl) ?_ ?_<;>exact byc)|(refine rw_rn' rfl rfl ?_;simp;done))))
   rintro N k hN
   try dsimp only
   repeat' (first|(apply f_wo;first|(apply f_mv;refine zt1 (v:=.c _) ?_)|(apply f_fa;refine n_fa ?_)|(apply f_ld;refine zh2 ?_)|(apply f_bi;refine zi2 ?_)|(apply zf3;refine zf1 ?_))|(apply f_w;first|refine za1 ?_|refine zd ?_)|refine zc fun C=>?_|refine zp ?_)
   refine zj1 (by rfl) (fun hk'=>?_) fun hk'=>?_
   ·have hlt:k<its.length:=by simpa using hk'
    obtain⟨x,hx⟩:∃x,its[k]? = some x:=⟨_,List.getElem?_eq_getElem hlt⟩
    have hHs:=Ds k x hx
    have hcl:=zc1 (T:=110) (n:=(D k).length) (k:=4) (l:=D k) hR
    have hcl2:=zc1 (T:=110) (n:=(D (k+1)).length) (k:=4) (l:=D (k+1)) hR
    have hxz:=E.szL_mem (List.mem_of_getElem? hx)
    obtain⟨kA,kc,ks,at_,rfl,⟨hks,hk1⟩,-⟩:=zs1 (h5 x (List.mem_of_getElem? hx))
    simp only [E.sz,E.szL] at hxz
    have c8:Ctr Tryz.prog 55 [.c (.pt 0 0),.ag [.ro ks.length 1 (acL ks),.v (.int .i64 at_)]] [.ow 110 (D k).length 4 (owL (D k)) :: R] (.tu []) [.ow 110 (D (k+1)).length 4 (owL (D (k+1))) :: R]:=by rw [←hHs];exact zj11 hR (Dok k) hks hk1 (by omega) at_
    repeat' (first|(apply f_wo;first|(apply f_mv;refine zt1 (v:=.c _) ?_)|(apply f_as;refine zp2 (v:=.c _) ?_)|(apply f_fa;refine n_fa ?_)|(apply f_ld;first|refine zh2 ?_|refine zu3 ?_)|(apply f_ca;refine zb6 0 (c8) ?_ (hl:=zr4 (by rfl) hcl))|(apply f_ia;refine n_ix ?_)|(apply zm3;refine zh1 ?_))|(apply f_w;first|refine za1 ?_|refine zd ?_)|refine zc fun C=>?_|refine zp ?_|refine zw ?_|refine zl1 ?_)
    refine⟨N-1,k+1,by omega,by omega,?_⟩
    (refine zm1 _ _ rfl rfl ?_ ?_<;>(repeat' (first|exact TmOk.nil|exact RwOk.nil|refine TmOk.cons ?_ ?_|refine RwOk.cons ?_ ?_|rfl|exact zr rfl (by assumption)|(refine rnV_id' rfl ?_;exact byc)|(refine zu1 ?_;first|rfl|omega|(rw [zy (by omega) (by omega)];omega))|(refine zr rfl ?_;exact byc)|exact zj2 rfl rfl|(refine zv1 (by rfl) (by rfl) ?_ ?_<;>exact byc)|(refine rw_rn' rfl rfl ?_;simp;done))))
   ·obtain rfl:k=its.length:=by have h9:¬k<its.length:=(by simpa using hk');omega
    repeat' (refine zy1 ?_)
    refine retL (x:=.tu []) rfl rfl rfl (zc1 hR) rfl ⟨rfl,rfl⟩
end Go.Proofs.YtfemkmnkofgaaaaGreat
