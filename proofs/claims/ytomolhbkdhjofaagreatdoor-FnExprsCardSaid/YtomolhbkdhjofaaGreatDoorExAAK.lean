/- T -/
import Derived.Test.YtomolhbkdhjofaaGreatDoorExAAJ
set_option maxHeartbeats 0
set_option maxRecDepth 100000
namespace Go.Proofs.YtomolhbkdhjofaaGreatDoor
open Go.RowKit Go.Proofs.Tryz
theorem zU:∀(f:Nat) (e:E),FnX e→j3 100 dh f e≤100→e.sz+1≤202*j3 100 dh f e
 | 0,e,_,h=>absurd h (by show ¬100+1≤100;omega)
 | f+1,e,hf,h=>by
  have h1:gpS 100 (j3 100 dh f) (dh e) 1≤100:=h
  have h2:=pU _ _ h1
  show e.sz+1≤202*gpS 100 (j3 100 dh f) (dh e) 1
  rw [h2]
  have hm:=kZ _ _ h1
  cases hf with
  | mk k n s l hk hn hs hl =>
  have h5:dh (xE k n s l)=l:=rfl
  rw [h5] at hm ⊢
  have key:∀r:List E,(∀x∈r,x∈l)→E.szL r+r.length≤202*sumC (j3 100 dh f) r:=fun r=>by
   induction r with
   | nil=>intro _;exact Nat.zero_le _
   | cons x r ih =>
    intro hr
    have i1:=ih fun y hy=>hr y (List.mem_cons_of_mem _ hy)
    have i2:=zU f x (hl x (hr x (List.mem_cons_self ..))) (hm x (hr x (List.mem_cons_self ..)))
    simp only [E.szL,List.length_cons,sumC]
    omega
  have:=key l fun _ h=>h
  rw [eV]
  omega
theorem oS {e:E}(hf:FnX e)(hb:fq e=true):e.sz≤20300∧(txE e).size≤1048576:=by
 unfold fq at hb
 rw [Bool.and_eq_true,decide_eq_true_iff] at hb
 have h1:j3 100 dh 10 e≤100:=hb.1
 have h2:=zU 10 e hf h1
 have h3:=oz hf.ty.1
 omega
theorem gI {e:E}(he:e.Ty prog 26)(hsz:e.sz≤1048576)(hb:fq e=true):Ctr prog 8 [.ag (acE e)] [] (.c (.v (.string (txE e)))) []:=by
 have c1:=ff he hsz
 have c2:=mc (e.sz+1) e he omq omq (m8 hb)
 rw [hb] at c1
 generalize txE e=T at *
 obtain⟨k0,n0,s0,xA,xc,l,rfl,-⟩:=aU he
 refine av func8 rfl rfl ?_
 repeat' (first|(apply ay;first|refine ai ?_|refine bN ?_|refine aF c1 ?_|refine aF c2 ?_|refine b7 ?_|refine cA ?_)|refine ak ?_|refine ab ?_|refine aa fun C=>?_|refine ac ?_|refine aj ?_|refine au rfl ?_)
 exact fJ
def pxI (s:ByteArray):Bool:=!(rdI s).2.b&&(fq (rdI s).1&&stB (txE (rdI s).1) s)
def pxE (s:ByteArray):E:=if pxI s=true then (rdI s).1 else zE
theorem zg5 (s:ByteArray):PI (jr s) ((jr s).length+12) ⟨0,false⟩ (rdI s).1 (rdI s).2:=wu (eU s).1 _ _ (fun _=>Nat.zero_le _)
theorem ls {s:ByteArray}(hs:s.size≤1048576):Ctr prog 11 [.c (.v (.string s))] [] (.tu [.ag (owE (pxE s)),.c (.v (.bool (pxI s)))]) []:=by
 have c1:=lm hs
 rw [(eU s).2] at c1
 have hl:=ka s
 have k2:=wz (ka s) (eU s).1 ((jr s).length+12) omq ⟨0,false⟩ (fun _=>Nat.zero_le _) (fun _=>by dsimp only;omega)
 rw [show exI (jr s) ((jr s).length+12) ⟨0,false⟩=rdI s from rfl] at k2
 have hp:=zg5 s
 have hn:=hp.n
 have hf:=hp.fine
 have c5:fq (rdI s).1=true→Ctr prog 27 [.c (.v (.string (txE (rdI s).1))),.c (.v (.string s))] [] (.c (.v (.bool (stB (txE (rdI s).1) s)))) []:=fun h=>sQ (oS hf h).2 hs
 have c4:fq (rdI s).1=true→Ctr prog 8 [.ag (acE (rdI s).1)] [] (.c (.v (.string (txE (rdI s).1)))) []:=fun h=>gI hf.ty.1 (by have:=(oS hf h).1;omega) h
 have c3:(rdI s).2.b=false→Ctr prog 10 [.ag (acE (rdI s).1)] [] (.c (.v (.bool (fq (rdI s).1)))) []:=fun h=>by
  have h0:(rdI s).2.b.toNat=0:=by rw [h];rfl
  have h1:=hn.2.2.1 h0
  dsimp only at h1
  exact ff hf.ty.1 omq
 unfold pxE pxI
 clear hn hp
 generalize rdI s=x at *
 obtain⟨e,⟨a,b⟩⟩:=x
 dsimp only at *
 generalize jr s=L at *
 generalize (nx s).2=p at *
 generalize stB (txE e) s=st at *
 generalize txE e=T at *
 generalize fq e=eb at *
 cases hf with
 | mk k n u l _ _ _ _ =>
 unfold di at k2
 dsimp only at k2
 refine av func11 rfl rfl ?_
 refine ac ?_
 refine aa fun C=>?_
 repeat' (first|(apply ay;first|refine bX ?_|refine n_sk0 ?_|(apply f_mv;first|(refine aR ?_ ?_<;>intro hG<;>(try cases hG))|refine al ?_|refine db (v:=.ag _) ?_|refine db (v:=.tu _) ?_|refine az ?_)|(apply f_as;first|refine ai ?_|refine kw (v:=.ag _) ?_|refine kw (v:=.tu _) ?_|refine az ?_)|refine bj ?_|refine nU ?_|refine aI ?_|refine dO ?_|refine dp ?_|refine bN ?_|refine zjQ ?_|(apply f_bi;first|refine bE ?_|refine bK ?_|refine dA ?_|refine fj ?_|refine fj (hnu:=bytC_noUn _) ?_|refine n_app0 ?_|refine n_app0 (hnu:=bytC_noUn _) ?_|refine az ?_)|refine bC ?_|refine n_sto ?_|(apply qG;first|refine iv ?_|refine eO ?_|refine az ?_)|(apply uB;first|refine ao ?_|refine aY ?_|refine aQ ?_|refine n_eql_b ?_|refine az ?_)|(apply uC;first|refine aS ?_|refine dx ?_|refine fm ?_|refine n_neq_b ?_|refine az ?_)|(apply uD;first|refine aD ?_|refine n_lss_u8 ?_|refine az ?_)|(apply uE;first|refine bG ?_|refine n_leq_u8 ?_|refine az ?_)|(apply uF;first|refine a7 ?_|refine n_gtr_u8 ?_|refine az ?_)|(apply uG;first|refine dP ?_|refine n_geq_u8 ?_|refine az ?_)|(apply pp;first|refine aw ?_|refine er ?_|refine az ?_)|(apply f_no;first|refine b7 ?_|refine az ?_)|(apply f_pk;first|refine aB ?_|refine kx (v:=.ag _) ?_|refine kx (v:=.tu _) ?_|refine az ?_)|(apply f_ex;first|refine cE ?_|refine fQ (v:=.ag _) ?_|refine fQ (v:=.tu _) ?_|refine az ?_)|(apply f_bb;first|refine cJ ?_|refine fB ?_|refine az ?_)|(apply f_cv;first|refine d9 ?_|refine sa ?_|refine lV ?_|refine n_cvs ?_|refine n_cvr ?_|refine az ?_)|refine bZ ?_|refine cA ?_|refine dX ?_|refine cG ?_|refine r9 ?_|refine jN ?_|refine gh ?_|refine az ?_|refine n_mv ?_)|refine ak ?_|refine ab ?_|(apply dC;first|refine iu ?_|refine o_sk0 ?_|(refine ik ?_ ?_<;>intro hG<;>(try cases hG))|(apply ep;refine aN ?_)|(apply mG;refine aN ?_)|refine fA ?_|refine po ?_|(apply d_ld;first|refine cY ?_|refine ju ?_|refine fY ?_|refine mF ?_|refine aN ?_|refine o_ld ?_)|(apply d_bi;first|refine ib ?_|refine dW ?_|refine lU ?_|refine jL ?_|refine jL (hnu:=bytC_noUn _) ?_|refine o_app0 ?_|refine o_app0 (hnu:=bytC_noUn _) ?_|refine aN ?_)|refine pn ?_|refine o_sto ?_|(apply d_ia;first|refine rZ ?_|refine r5 ?_|refine aN ?_)|(apply ic;first|refine dE ?_|refine eo ?_|refine fy ?_|refine mC ?_|refine aN ?_)|(apply d_cv;first|refine fP ?_|refine lT ?_|refine o_cvs ?_|refine o_cvr ?_|refine aN ?_)|refine xp ?_|refine o_bo ?_|refine um ?_|refine fx ?_|refine mB ?_|refine lE ?_|refine jM ?_|refine aN ?_|refine o_mv ?_)|refine ak ?_|refine ab ?_)
 refine ac ?_
 refine aa fun C=>?_
 repeat' (first|(apply ay;first|refine bX ?_|refine n_sk0 ?_|(apply f_mv;first|(refine aR ?_ ?_<;>intro hG<;>(try cases hG))|refine al ?_|refine db (v:=.ag _) ?_|refine db (v:=.tu _) ?_|refine az ?_)|(apply f_as;first|refine ai ?_|refine kw (v:=.ag _) ?_|refine kw (v:=.tu _) ?_|refine az ?_)|refine bj ?_|refine nU ?_|refine aI ?_|refine dO ?_|refine dp ?_|refine bN ?_|refine zjQ ?_|refine aF c1 ?_|refine dn c1 ?_|(apply f_bi;first|refine bE ?_|refine bK ?_|refine dA ?_|refine fj ?_|refine fj (hnu:=bytC_noUn _) ?_|refine n_app0 ?_|refine n_app0 (hnu:=bytC_noUn _) ?_|refine az ?_)|refine bC ?_|refine n_sto ?_|(apply qG;first|refine iv ?_|refine eO ?_|refine az ?_)|(apply uB;first|refine ao ?_|refine aY ?_|refine aQ ?_|refine n_eql_b ?_|refine az ?_)|(apply uC;first|refine aS ?_|refine dx ?_|refine fm ?_|refine n_neq_b ?_|refine az ?_)|(apply uD;first|refine aD ?_|refine n_lss_u8 ?_|refine az ?_)|(apply uE;first|refine bG ?_|refine n_leq_u8 ?_|refine az ?_)|(apply uF;first|refine a7 ?_|refine n_gtr_u8 ?_|refine az ?_)|(apply uG;first|refine dP ?_|refine n_geq_u8 ?_|refine az ?_)|(apply pp;first|refine aw ?_|refine er ?_|refine az ?_)|(apply f_no;first|refine b7 ?_|refine az ?_)|(apply f_pk;first|refine aB ?_|refine kx (v:=.ag _) ?_|refine kx (v:=.tu _) ?_|refine az ?_)|(apply f_ex;first|refine cE ?_|refine fQ (v:=.ag _) ?_|refine fQ (v:=.tu _) ?_|refine az ?_)|(apply f_bb;first|refine cJ ?_|refine fB ?_|refine az ?_)|(apply f_cv;first|refine d9 ?_|refine sa ?_|refine lV ?_|refine n_cvs ?_|refine n_cvr ?_|refine az ?_)|refine bZ ?_|refine cA ?_|refine dX ?_|refine cG ?_|refine r9 ?_|refine jN ?_|refine gh ?_|refine az ?_|refine n_mv ?_)|refine ak ?_|refine ab ?_|(apply dC;first|refine iu ?_|refine o_sk0 ?_|(refine ik ?_ ?_<;>intro hG<;>(try cases hG))|(apply ep;refine aN ?_)|(apply mG;refine aN ?_)|refine fA ?_|refine po ?_|(apply d_ld;first|refine cY ?_|refine ju ?_|refine fY ?_|refine mF ?_|refine aN ?_|refine o_ld ?_)|refine ex c1 ?_|(apply d_bi;first|refine ib ?_|refine dW ?_|refine lU ?_|refine jL ?_|refine jL (hnu:=bytC_noUn _) ?_|refine o_app0 ?_|refine o_app0 (hnu:=bytC_noUn _) ?_|refine aN ?_)|refine pn ?_|refine o_sto ?_|(apply d_ia;first|refine rZ ?_|refine r5 ?_|refine aN ?_)|(apply ic;first|refine dE ?_|refine eo ?_|refine fy ?_|refine mC ?_|refine aN ?_)|(apply d_cv;first|refine fP ?_|refine lT ?_|refine o_cvs ?_|refine o_cvr ?_|refine aN ?_)|refine xp ?_|refine o_bo ?_|refine um ?_|refine fx ?_|refine mB ?_|refine lE ?_|refine jM ?_|refine aN ?_|refine o_mv ?_)|refine ak ?_|refine ab ?_)
 refine bk (zz4 (t:=4) (j:=1100) rfl rfl (np _)) ?_
 cases b with
 | true =>
  rw [show (!true&&(eb&&st))=false from rfl,if_neg (by simp)]
  repeat' (first|(apply ay;first|refine bX ?_|(refine aR ?_ ?_<;>intro hG<;>(try cases hG))|refine al ?_|refine ai ?_|refine bj ?_|refine aI ?_|refine aK 15 (k2) ?_ (hl:=bz (by rfl) bW)|refine bC ?_|refine aB ?_|refine bZ ?_|refine cA ?_|refine az ?_)|refine ak ?_|refine ab ?_|refine aa fun C=>?_|refine ac ?_|refine aq rfl ?_)
  refine bk (cP 90000 (i:=2) 26 4 rfl rfl (pre:=[_,_,_]) (post:=[]) rfl) ?_
  refine am ?_;refine bv rfl (cf (aC (aZ (aE rfl (aE rfl (aE rfl (ba rfl rfl rfl cls0 aL))))) (aC aH bh))) ⟨?_,rfl⟩;rfl
 | false =>
  have c3:=c3 rfl
  cases eb with
  | false =>
   rw [show (!false&&(false&&st))=false from rfl,if_neg (by simp)]
   repeat' (first|(apply ay;first|refine bX ?_|(refine aR ?_ ?_<;>intro hG<;>(try cases hG))|refine al ?_|refine ai ?_|refine bj ?_|refine aI ?_|refine bN ?_|refine aK 15 (k2) ?_ (hl:=bz (by rfl) bW)|refine aF c3 ?_|refine bC ?_|refine b7 ?_|refine aB ?_|refine bZ ?_|refine cA ?_|refine az ?_)|refine ak ?_|refine ab ?_|refine aa fun C=>?_|refine ac ?_|refine aq rfl ?_)
   refine bk (cP 90000 (i:=2) 26 4 rfl rfl (pre:=[_,_,_]) (post:=[]) rfl) ?_
   refine am ?_;refine bv rfl (cf (aC (aZ (aE rfl (aE rfl (aE rfl (ba rfl rfl rfl cls0 aL))))) (aC aH bh))) ⟨?_,rfl⟩;rfl
  | true =>
   have c4:=c4 rfl
   have c5:=c5 rfl
   cases st with
   | false =>
    rw [show (!false&&(true&&false))=false from rfl,if_neg (by simp)]
    repeat' (first|(apply ay;first|(refine aR ?_ ?_<;>intro hG<;>(try cases hG))|refine al ?_|refine ai ?_|refine bj ?_|refine aI ?_|refine bN ?_|refine aK 15 (k2) ?_ (hl:=bz (by rfl) bW)|refine aF c3 ?_|refine aF c4 ?_|refine aF c5 ?_|refine bC ?_|refine b7 ?_|refine aB ?_|refine bZ ?_|refine cA ?_|refine az ?_)|refine ak ?_|refine ab ?_|refine aa fun C=>?_|refine ac ?_|refine aq rfl ?_)
    refine bk (cP 90000 (i:=2) 26 4 rfl rfl (pre:=[_,_,_]) (post:=[]) rfl) ?_
    refine am ?_;refine bv rfl (cf (aC (aZ (aE rfl (aE rfl (aE rfl (ba rfl rfl rfl cls0 aL))))) (aC aH bh))) ⟨?_,rfl⟩;rfl
   | true =>
    rw [show (!false&&(true&&true))=true from rfl,if_pos rfl]
    repeat' (first|(apply ay;first|(refine aR ?_ ?_<;>intro hG<;>(try cases hG))|refine al ?_|refine ai ?_|refine bj ?_|refine aI ?_|refine bN ?_|refine aK 15 (k2) ?_ (hl:=bz (by rfl) bW)|refine aF c3 ?_|refine aF c4 ?_|refine aF c5 ?_|refine bC ?_|refine b7 ?_|refine aB ?_|refine bZ ?_|refine cA ?_|refine az ?_)|refine ak ?_|refine ab ?_|refine aa fun C=>?_|refine ac ?_|refine aj ?_|refine au rfl ?_)
    refine am ?_;refine bv rfl (cf (aC (aZ (aE rfl (aE rfl (aE rfl (ba rfl rfl rfl cls0 aL))))) (aC aH bh))) ⟨?_,rfl⟩;rfl
def hsh (bs:List UInt8):Nat→Int
 | 0=>wrap64 (348348+(bs.length:Int))
 | k+1=>bits .and .i64 (wrap64 (wrap64 (wrap64 (hsh bs k*137)+wrap64 ((bs[k]?.getD 0).toNat:Int))+11)) 1073741823
theorem yR (bs:List UInt8):∃h:Int,∀(A:Option Addr) (c:Nat) (w:World),Rd w 1 wI (.slice A bs.length c) bs →
 Calls prog 20 #[.slice A bs.length c] w fun e w'=>e=.returned (.pointer (some ⟨w.heap.size,0,none⟩))∧∃n,w'=(w.alloc (.cells #[.slice A bs.length c,.int .i64 0,.int .i64 h] 67)).drewN n:=by
 refine⟨hsh bs (min bs.length 4000),fun A c w hs=>?_⟩
 have hlen:=hs.len_le
 go_enter func20,Tryz.ntmps20
 go_wp2
 go_loopw [3,4] (fun h i wr=>∃k:Nat,k≤min bs.length 4000∧i=.int .i64 k∧h=.int .i64 (hsh bs k)∧wr=w) (fun _ i _=>bs.length-(intOf i).toNat)
 case atStart=>exact⟨0,Nat.zero_le _,rfl,rfl,rfl⟩
 case round =>
  obtain⟨k,hk,rfl,rfl,rfl⟩:=hrel
  by_cases hlt:k<bs.length∧k<4000
  ·obtain⟨hlt,h4⟩:=hlt
   obtain⟨g,o,rfl,_,_,hcell⟩:=Sl.at1 hs hlt
   have c0:=hcell _ rfl
   clear hcell
   go_wp2
   go_roundw
   case rel=>exact⟨k+1,omq,by go_num,by simp [hsh,List.getElem?_eq_getElem hlt],trivial⟩
   case measure=>simp [intOf];omega
  ·have hke:k=min bs.length 4000:=by omega
   rw [←hke]
   by_cases hlt2:k<bs.length
   ·have h4:¬k<4000:=fun h=>hlt ⟨hlt2,h⟩
    clear hlt
    go_wp2
    go_ret
    exact⟨rfl,0,rfl⟩
   ·clear hlt
    go_wp2
    go_ret
    exact⟨rfl,0,rfl⟩
def bE8 (bs:List UInt8):List E:=bs.map fun b=>.int .u8 (b.toNat:Int)
theorem wD {bs:List UInt8}:(bE8 bs).length=bs.length:=by simp [bE8]
theorem zz2 (bs:List UInt8):Byt (bE8 bs):=fun e he=>by
 obtain⟨b,-,rfl⟩:=List.mem_map.1 he
 exact⟨b.toNat,b.toNat_lt,rfl⟩
theorem rB {w:World}{St:Nat→Prop}{φ:Nat→Lc}{K:Nat→Prop}:∀{bs:List UInt8} {us:List Value} {fp:List Nat},CRL w St φ K (acL (bE8 bs)) us fp→us=bs.map fun b=>.int .u8 b.toNat
 | [],us,fp,h=>by
  have h':CRL w St φ K [] us fp:=h
  simp only [CRL] at h'
  exact h'.1
 | b :: r,us,fp,h=>by
  have h':CRL w St φ K (.v (.int .u8 b.toNat) :: acL (bE8 r)) us fp:=h
  simp only [CRL] at h'
  obtain⟨u,us',f1,f2,rfl,rfl,h1,h2⟩:=h'
  simp only [CR] at h1
  obtain⟨rfl,-⟩:=h1
  rw [rB h2]
  rfl
theorem zh5 {w:World}{St:Nat→Prop}{φ:Nat→Lc}{K:Nat→Prop}{u:Value}{bs:List UInt8}(h:VR w St φ K (.c (.ro bs.length 1 (acL (bE8 bs)))) u):∃A c,u=.slice A bs.length c∧Rd w 1 wI (.slice A bs.length c) bs:=by
 simp only [VR,CR] at h
 obtain⟨-,A,c,rfl,⟨h1,h2,h3⟩,h4,h5⟩:=h
 refine⟨A,c,rfl,A,c,rfl,h1,⟨h2,h3⟩,fun hn=>?_⟩
 obtain⟨b,o,us,rfl,-,hlt,hc,hcr⟩:=h5 hn
 refine⟨b,o,rfl,Nat.zero_le _,hlt,fun i hi j u hu=>?_⟩
 have hus:=rB hcr
 have hj:j=0∧u=.int .u8 bs[i].toNat:=by
  cases j with
  | zero=>simp [wI] at hu;exact⟨rfl,hu.symm⟩
  | succ j=>simp [wI] at hu
 obtain⟨rfl,rfl⟩:=hj
 have:=hc i (.int .u8 bs[i].toNat) (by rw [hus,List.getElem?_map,List.getElem?_eq_getElem hi];rfl)
 rw [Nat.mul_one,Nat.add_zero]
 exact this
def rC (bs:List UInt8)(h:Int):List AC:=[.ro bs.length 1 (acL (bE8 bs)),.v (.int .i64 0),.v (.int .i64 h)]
theorem qh {bs:List UInt8}{h:Int}(hl:bs.length≤1048576):Curs (rC bs h):=by
 refine⟨bE8 bs,0,h,zz2 bs,Nat.zero_le _,by rw [wD];exact hl,?_⟩
 rw [wD];rfl
theorem n_new {ops:Array Oper}{Q:Exit→Act→World→Prop}{C:Ctx}{i:Nat}{r:List Nat}{tm:Nat→AV}{hp:Nat→Option Row}{gn L:Nat}{us:List Nat}{ty cT:TypeId}{gd:Option (Nat×Bool)}{ps:String}{af:Array Edge}{t:Nat}{xo fv:Operand}{bs:List UInt8}{hh:Int}
 (hnew:∀(A:Option Addr) (c:Nat) (w:World),Rd w 1 wI (.slice A bs.length c) bs→Calls prog 20 #[.slice A bs.length c] w fun e w'=>e=.returned (.pointer (some ⟨w.heap.size,0,none⟩))∧∃n,w'=(w.alloc (.cells #[.slice A bs.length c,.int .i64 0,.int .i64 hh] 67)).drewN n)
 (h:Walk prog ops Q C false [] r ⟨upd tm t (.c (.pt t 0)),upd hp t (some ⟨67,0,0,true,rC bs hh⟩),gn,t :: us,L⟩)
 (ht:Nat.blt t L=true:=by exact rfl) (hg:gw ops tm (⟨some t,.call ⟨.value fv,#[xo],#[cT]⟩,ty,ps,af,gd⟩:Oper)=some true:=by exact rfl) (hf:(Nat.ble gn t&&!us.contains t)=true:=by exact rfl)
 (hfv:AS.ev ⟨tm,hp,gn,us,L⟩ fv=.c (.fn 20 []):=by exact rfl) (hx:AS.ev ⟨tm,hp,gn,us,L⟩ xo=.c (.ro bs.length 1 (acL (bE8 bs))):=by exact rfl) :
 WalkO prog ops Q C false [] i (⟨some t,.call ⟨.value fv,#[xo],#[cT]⟩,ty,ps,af,gd⟩:Oper) r ⟨tm,hp,gn,us,L⟩:=⟨fun hop=>by
 simp only [Bool.and_eq_true,Nat.ble_eq,Bool.not_eq_true'] at hf
 have hnu:t∉us:=fun hm=>by have:=hf.2;simp at this;exact this hm
 refine⟨_,⟨[],[(t,some ⟨67,0,0,true,rC bs hh⟩)],[t],.c (.pt t 0)⟩,hop,?_,fun m hm=>?_,dM (by exact bg),?_⟩
 ·intro τ a w ha hsim K hK
  obtain⟨φ,F,St,hsim⟩:=hsim
  have e1:τ.ev xo=.c (.ro bs.length 1 (acL (bE8 bs))):=by rw [ha.ev xo (by simp [Op.operands,Call.operands])];exact hx
  have e2:τ.ev fv=.c (.fn 20 []):=by rw [ha.ev fv (by simp [Op.operands,Call.operands])];exact hfv
  have v1:=hsim.ev xo
  have v2:=hsim.ev fv
  rw [e1] at v1
  rw [e2] at v2
  simp only [VR,CR] at v2
  obtain⟨-,us2,hfu,hcaps⟩:=v2
  obtain⟨rfl,-⟩:us2=[]∧True:=by simp only [CRL] at hcaps;exact⟨hcaps.1,trivial⟩
  obtain⟨A,c,hev,hrd⟩:=zh5 v1
  unfold wpOp
  rw [hop]
  have hw:=nM hsim (b:=true) (by rw [ha.gw];exact hg)
  simp only [hw,if_true]
  refine .inl ?_
  unfold Oper.wp
  have hrun:(execOp a.eval (⟨some t,.call ⟨.value fv,#[xo],#[cT]⟩,ty,ps,af,gd⟩:Oper)).run prog w=.ok (.enter 20 #[.slice A bs.length c]) w:=by
   have h1:(resolve a.eval ⟨.value fv,#[xo],#[cT]⟩ ty).run prog w=.ok { target:=.fn (.func 20) #[],args:=#[.slice A bs.length c] } w:=by
    unfold resolve;simp only [hfu,Deferred.ofValue,Sem.run_pure]
    simp [hev]
   have h2:execOp a.eval (⟨some t,.call ⟨.value fv,#[xo],#[cT]⟩,ty,ps,af,gd⟩:Oper)=(do let d ←resolve a.eval ⟨.value fv,#[xo],#[cT]⟩ ty;invoke d.target d.args):=by unfold execOp;rfl
   rw [h2,Sem.run_bind,h1]
   simp only [Result.andThen_ok,invoke]
   exact gq (by kernel_rfl) _ _
  rw [hrun,Oper.upon_enter]
  refine (hnew A c w hrd).mono ?_
  rintro e w' ⟨rfl,n,rfl⟩
  have hcr:CRL w St φ τ.Kn (rC bs hh) [.slice A bs.length c,.int .i64 0,.int .i64 hh] []:=by
   refine CRL.cons (f:=[]) (f':=[]) ?_ (CRL.cons (f:=[]) (f':=[]) (by simp only [CR];exact⟨trivial,rfl,trivial⟩) (CRL.cons (f:=[]) (f':=[]) (by simp only [CR];exact⟨trivial,rfl,trivial⟩) CRL.nil))
   simp only [VR] at v1
   rw [←hev]
   exact v1
  obtain⟨φ',F',St',s1,s2⟩:=hsim.newBox (id:=t) (by rw [ha.gn];exact hf.1) (ha.us t (by simp)) hcr 67
  have s3:=s1.keep (w':=(w.alloc (.cells #[.slice A bs.length c,.int .i64 0,.int .i64 hh] 67)).drewN n) (Stp.drawn _ _ none)
  exact hK _ _ ⟨φ',F',St',s3.put (some t) (VR.mono (fun b hb _=>⟨hb,rfl⟩) (Nat.le_refl _) (fun _ hi=>⟨hi,rfl⟩) _ _ s2)⟩
 ·have:m=t:=by simpa using hm
  subst this
  exact hnu
 ·refine cv ?_
  show Walk prog ops Q C false [] r (AS.put _ (some t) _)
  rw [dz (by exact dy ht)];exact h⟩
end Go.Proofs.YtomolhbkdhjofaaGreatDoor
