/- The reference's reader of regular expressions: alternatives; ParseRex: by the abstract machine. -/
import Derived.Test.YtghljnfbbaklnaaGreatPutModuleAI
namespace Go.Proofs.YtghljnfbbaklnaaGreat
open Go.RowKit
set_option maxRecDepth 100000
set_option maxHeartbeats 8000000 in
theorem l3Alt_c {s:ByteArray}(hs:s.size≤1048576){cat:PS→E×PS}{p0:PS}(hp:Pre s p0)
 (hg:∀q,Pre s q→p0.a≤q.a→GoodS s q (cat q))
 (hi:∀q,Pre s q→p0.a≤q.a→Ctr Tryz.prog 202 [.c (.pt 0 0)] [rdrS s q] (.ag (owE (cat q).1)) [rdrS s (cat q).2]) :
 Ctr Tryz.prog 185 [.c (.pt 0 0)] [rdrS s p0] (.ag (owE (altC s cat p0).1)) [rdrS s (altC s cat p0).2]:=by
 have hic0:=hi p0 hp (Nat.le_refl _)
 have hg0:=hg p0 hp (Nat.le_refl _)
 have hL0:=GoodLS.one hg0
 have hr:altC s cat p0=(oneOr 5 (altLoopS s cat (s.size+1) [(cat p0).1] (cat p0).2).1,(altLoopS s cat (s.size+1) [(cat p0).1] (cat p0).2).2):=rfl
 rw [hr]
 clear hr
 obtain⟨⟨e,q0⟩,hq0⟩:∃r,cat p0=r:=⟨_,rfl⟩
 rw [hq0] at hic0 hg0 hL0 ⊢
 have hfi:Fine e:=hg0.fine
 dsimp only at hic0 hL0 ⊢
 cases hfi with
 | mk k t l hk ht hl2 =>
 refine zo2 Tryz.func185 rfl rfl ?_
 repeat' (first|(apply f_wo;first|(apply f_mv;first|refine zj1 (v:=.c _) ?_|refine za ?_)|(apply f_as;first|refine zi1 (v:=.c _) ?_|refine za ?_)|(apply f_ld;first|refine zw ?_|refine zo1 ?_|refine n_ld ?_)|(apply f_ca;first|refine za3 0 (hic0) ?_)|(apply f_bi;first|refine zb1 ?_|refine za1 ?_|refine zc1 ?_|refine zc2 ?_|refine zc2 (hnu:=ze _) ?_|refine zp1 ?_|refine zp1 (hnu:=ze _) ?_|refine za ?_)|(apply f_st;first|refine n_st ?_|refine zx1 ?_)|(apply f_ia;first|refine n_ix ?_|refine zz1 ?_|refine za ?_)|(apply ze2;first|refine zy ?_|refine za ?_)|refine n_al ?_|refine n_bs ?_|refine za ?_)|(apply f_w;first|refine zv ?_|refine zc ?_)|refine zb fun C=>?_|refine zh ?_|refine zd ?_|refine zf ?_|refine zg ?_|refine zt rfl ?_|refine zp rfl ?_)
 refine ze3 (fun q:List E×PS=>⟨tmsF [(0,.c (.pt 0 0)),(2,.c (.pt 2 0)),(3,.c (.sl 9 q.1.length))],hpsF [(0,0,⟨0,0,0,true,rdrS s q.2⟩),(2,2,⟨208,0,0,true,[.v (.int .i64 0),.v (.string ByteArray.empty),.v (.slice none 0 0)]⟩),(9,9,⟨208,3,q.1.length,false,owL q.1⟩)],1,[0,2,9],22⟩)
  (fun N q=>GoodLS s p0 q.1 q.2∧s.size+1≤q.2.a+N∧altLoopS s cat N q.1 q.2=altLoopS s cat (s.size+1) [rexE k t l] q0) (s.size+1) ([rexE k t l],q0) ⟨hL0,by dsimp only;omega,rfl⟩ ?_ ?_
 ·refine (zx9 (i:=6) (j:=600) rfl rfl rfl (pre:=[_,_]) (post:=[]) rfl).trans ?_
  (refine za6 (fun j=>if j=9 then 6 else j) _ _ rfl rfl ?_ ?_<;>(repeat' (first|exact TmOk.nil|exact RwOk.nil|refine TmOk.cons ?_ ?_|refine RwOk.cons ?_ ?_|rfl|(refine rnV_id' rfl ?_;exact byc)|(refine zv2 ?_;first|rfl|omega|(rw [zv1 (by omega) (by omega)];omega))|(refine zl1 rfl ?_;exact byc)|exact zz3 rfl rfl|(refine zw2 (by rfl) (by rfl) ?_ ?_<;>exact byc)|(refine rw_rn' rfl rfl ?_;simp;done))))
 rintro N ⟨L,q⟩ ⟨hgl,hN,htot⟩
 dsimp only at hgl hN htot ⊢
 have hpre:=hgl.pre hp
 have hbar:=zl12 hs (c:=124) (by omega) (p:=q)
 obtain⟨a,d,b⟩:=q
 have hlen:=hgl.len.1
 have hale:a≤s.size:=hgl.le
 dsimp only at hlen hN
 cases hgo:isB s 124 ⟨a,d,b⟩ with
 | true =>
  obtain⟨hb,hlt,hv⟩:=zx10 hgo
  dsimp only at hb hlt hv
  subst hb
  rw [zr8 hgo,hgo] at hbar
  obtain⟨M,rfl⟩:∃M,N=M+1:=⟨N-1,by omega⟩
  have hpre2:Pre s ⟨a+1,d,false⟩:=⟨by show a+1≤_;omega,hpre.2.1,hpre.2.2⟩
  have hge:p0.a≤a:=hgl.ge
  have hic:=hi ⟨a+1,d,false⟩ hpre2 (by show p0.a≤a+1;omega)
  have hgd:=hg ⟨a+1,d,false⟩ hpre2 (by show p0.a≤a+1;omega)
  have hst:altLoopS s cat (M+1) L ⟨a,d,false⟩=altLoopS s cat M (L++[(cat ⟨a+1,d,false⟩).1]) (cat ⟨a+1,d,false⟩).2:=by
   show (if isB s 124 ⟨a,d,false⟩ then _ else _)=_
   rw [if_pos hgo];rfl
  rw [hst] at htot
  clear hst hi hg hic0
  have hge2:a+1≤(cat ⟨a+1,d,false⟩).2.a:=hgd.ge
  have hgl2:=hgl.step rfl (r:=cat ⟨a+1,d,false⟩) ⟨⟨hgd.fine,by show a≤_;omega,hgd.le,hgd.dg,hgd.dl,hgd.nb⟩,fun _=>by show a<_;omega⟩
  obtain⟨⟨e2,q2⟩,hq2⟩:∃r,cat ⟨a+1,d,false⟩=r:=⟨_,rfl⟩
  rw [hq2] at hic htot hgd hgl2 hge2
  dsimp only at hic htot hgd hgl2 hge2
  have hfi2:Fine e2:=hgd.fine
  cases hfi2 with
  | mk k' t' l' hk' ht' hl2' =>
  unfold rdrS at hbar hic ⊢
  dsimp only [PS.go] at hbar hic ⊢
  repeat' (first|(apply f_wo;first|(apply f_mv;first|refine zj1 (v:=.c _) ?_|refine za ?_)|(apply f_as;first|refine zi1 (v:=.c _) ?_|refine za ?_)|(apply f_ld;first|refine zw ?_|refine zo1 ?_|refine n_ld ?_)|(apply f_ca;first|refine za3 0 (hbar) ?_|refine za3 0 (hic) ?_)|(apply f_bi;first|refine zb1 ?_|refine za1 ?_|refine zc1 ?_|refine zc2 ?_|refine zc2 (hnu:=ze _) ?_|refine zp1 ?_|refine zp1 (hnu:=ze _) ?_|refine za ?_)|(apply f_st;first|refine n_st ?_|refine zx1 ?_)|(apply f_ia;first|refine n_ix ?_|refine zz1 ?_|refine za ?_)|(apply ze2;first|refine zy ?_|refine za ?_)|refine n_al ?_|refine n_bs ?_|refine za ?_)|(apply f_w;first|refine zv ?_|refine zc ?_)|refine zb fun C=>?_|refine zh ?_|refine zd ?_|refine zf ?_|refine zg ?_|refine zt rfl ?_|refine zp rfl ?_)
  refine⟨M,(L++[rexE k' t' l'],q2),by omega,⟨hgl2,by dsimp only;omega,htot⟩,?_⟩
  dsimp only
  rw [List.length_append,List.length_singleton]
  refine (zx9 (i:=13) (j:=1200) rfl rfl rfl (pre:=owL L++[.v (.int .i64 k'),.v (.string t')]) (post:=[]) (by rw [List.append_assoc];rfl)).trans ?_
  (refine za6 (fun j=>if j=9 then 13 else j) _ _ rfl rfl ?_ ?_<;>(repeat' (first|exact TmOk.nil|exact RwOk.nil|refine TmOk.cons ?_ ?_|refine RwOk.cons ?_ ?_|rfl|(refine rnV_id' rfl ?_;exact byc)|(refine zv2 ?_;first|rfl|omega|(rw [zv1 (by omega) (by omega)];omega))|(refine zl1 rfl ?_;exact byc)|exact zz3 rfl rfl|(refine zw2 (by rfl) (by rfl) ?_ ?_<;>exact byc)|(refine rw_rn' rfl rfl ?_;simp;done))))
  exact zz17 (r:=⟨208,3,L.length+1,false,(owL L++[.v (.int .i64 k'),.v (.string t')])++[.ow 208 l'.length 3 (owL l')]⟩) rfl (by rw [zw9,List.append_assoc];rfl) (by first|rfl|(simp [cloV,cloL,clo,zd1,zo,ze1,zq,zr];done))
 | false =>
  rw [zn18 hgo] at htot
  rw [←htot]
  rw [zn12 hgo,hgo] at hbar
  have hfine:=hgl.fine
  have hne:=hgl.ne
  clear htot hi hg hic0 hL0 hgl hpre hg0
  unfold rdrS at hbar ⊢
  dsimp only at hbar ⊢
  match L,hfine,hne with
  | [],_,h0=>exact absurd h0 (by simp)
  | [x],hf,_ =>
   have hx:=hf x (List.mem_singleton.2 rfl)
   cases hx with
   | mk k' t' l' hk' ht' hl2' =>
   repeat' (first|(apply f_wo;first|(apply f_mv;first|refine zj1 (v:=.c _) ?_|refine za ?_)|(apply f_as;first|refine zi1 (v:=.c _) ?_|refine za ?_)|(apply f_ld;first|refine zw ?_|refine zo1 ?_|refine n_ld ?_)|(apply f_ca;first|refine za3 0 (hbar) ?_)|(apply f_bi;first|refine zb1 ?_|refine za1 ?_|refine zc1 ?_|refine zc2 ?_|refine zc2 (hnu:=ze _) ?_|refine zp1 ?_|refine zp1 (hnu:=ze _) ?_|refine za ?_)|(apply f_st;first|refine n_st ?_|refine zx1 ?_)|(apply f_ia;first|refine n_ix ?_|refine zz1 ?_|refine za ?_)|(apply ze2;first|refine zy ?_|refine za ?_)|refine n_al ?_|refine n_bs ?_|refine za ?_)|(apply f_w;first|refine zv ?_|refine zc ?_)|refine zb fun C=>?_|refine zh ?_|refine zd ?_|refine zf ?_|refine zg ?_)
   refine zp rfl ?_
   refine zs4 (g_rev 800 (i:=9) rfl rfl (pre:=[.v (.int .i64 k'),.v (.string t')]) (post:=[]) rfl) ?_
   repeat' (first|(apply f_wo;first|(apply f_mv;first|refine zj1 (v:=.c _) ?_|refine za ?_)|(apply f_as;first|refine zi1 (v:=.c _) ?_|refine za ?_)|(apply f_ld;first|refine zw ?_|refine zo1 ?_|refine n_ld ?_)|(apply f_bi;first|refine zb1 ?_|refine za1 ?_|refine zc1 ?_|refine zc2 ?_|refine zc2 (hnu:=ze _) ?_|refine zp1 ?_|refine zp1 (hnu:=ze _) ?_|refine za ?_)|(apply f_st;first|refine n_st ?_|refine zx1 ?_)|(apply f_ia;first|refine n_ix ?_|refine zz1 ?_|refine za ?_)|(apply ze2;first|refine zy ?_|refine za ?_)|refine n_al ?_|refine n_bs ?_|refine za ?_)|(apply f_w;first|refine zv ?_|refine zc ?_)|refine zb fun C=>?_|refine zh ?_|refine zd ?_|refine zf ?_|refine zg ?_|refine zt rfl ?_|refine zp rfl ?_)
   refine zu ?_;refine ret1 rfl (zy3 (zi3 rfl (zi3 rfl (zk3 rfl rfl rfl (by first|exact zq _|exact zo _|exact bytC_clo _|(simp [cloL,clo,zq,zo,ze1,zd1,zr];done)|(simp [cloL,clo,opC,opL,zq,zo,ze1,zd1,zr];done)) zn2)))) rfl (by first|rfl|(simp [cloL,clo,zq,zo,ze1,zd1,zr];done)) rfl ⟨?_,?_⟩<;>rfl
  | x :: y :: r,hf,_ =>
   have hlen2:(x :: y :: r).length=r.length+2:=rfl
   repeat' (first|(apply f_wo;first|(apply f_mv;first|refine zj1 (v:=.c _) ?_|refine za ?_)|(apply f_as;first|refine zi1 (v:=.c _) ?_|refine za ?_)|(apply f_ld;first|refine zw ?_|refine zo1 ?_|refine n_ld ?_)|(apply f_ca;first|refine za3 0 (hbar) ?_)|(apply f_bi;first|refine zb1 ?_|refine za1 ?_|refine zc1 ?_|refine zc2 ?_|refine zc2 (hnu:=ze _) ?_|refine zp1 ?_|refine zp1 (hnu:=ze _) ?_|refine za ?_)|(apply f_st;first|refine n_st ?_|refine zx1 ?_)|(apply f_ia;first|refine n_ix ?_|refine zz1 ?_|refine za ?_)|(apply ze2;first|refine zy ?_|refine za ?_)|refine n_al ?_|refine n_bs ?_|refine za ?_)|(apply f_w;first|refine zv ?_|refine zc ?_)|refine zb fun C=>?_|refine zh ?_|refine zd ?_|refine zf ?_|refine zg ?_|refine zt rfl ?_|refine zp rfl ?_)
   refine zu ?_;refine ret1 rfl (zy3 (zi3 rfl (zi3 rfl (zk3 rfl rfl rfl (by first|exact zq _|exact zo _|exact bytC_clo _|(simp [cloL,clo,zq,zo,ze1,zd1,zr];done)|(simp [cloL,clo,opC,opL,zq,zo,ze1,zd1,zr];done)) zn2)))) rfl (by first|rfl|(simp [cloL,clo,zq,zo,ze1,zd1,zr];done)) rfl ⟨?_,?_⟩<;>rfl
theorem altS_c {s:ByteArray}(hs:s.size≤1048576)(f:Nat):∀p:PS,Pre s p→s.size+1≤p.a+f→Ctr Tryz.prog 185 [.c (.pt 0 0)] [rdrS s p] (.ag (owE (altS s f p).1)) [rdrS s (altS s f p).2]:=by
 induction f with
 | zero=>intro p h1 h2;have:=h1.1;omega
 | succ f ih =>
  intro p h1 h2
  have hkid:∀r:PS,Pre s r→p.a≤r.a→r.b=false→r.a<s.size→r.d≤7→GoodS s ⟨r.a+1,r.d+1,r.b⟩ (altS s f ⟨r.a+1,r.d+1,r.b⟩):=fun r hr hra hb hlt hd=>zx16 hs f _ ⟨by show r.a+1≤_;omega,by show r.d+1≤9;omega,fun _=>by show r.d+1≤8;omega⟩ (by show s.size+1≤r.a+1+f;omega)
  have hat:∀r:PS,Pre s r→p.a≤r.a→GoodS s r (atomS s (altS s f) r)∧((atomS s (altS s f) r).2.b=false→r.a<(atomS s (altS s f) r).2.a):=fun r hr hra=>zw13 hs hr fun hb hlt hd=>hkid r hr hra hb hlt hd
  refine l3Alt_c hs h1 (fun q hq hqa=>zw16 hq fun r hr hra=>zh10 (hat r hr (by omega))) fun q hq hqa=>?_
  refine l3Cat_c hs hq (fun r hr hra=>zh10 (hat r hr (by omega))) fun r hr hra=>?_
  refine l3Item_c hs (hat r hr (by omega)).1 ?_
  have hpre:r.b=false→r.a<s.size→Pre s (r.go 1):=fun hb hlt=>⟨by show r.a+1≤_;omega,hr.2.1,hr.2.2⟩
  refine l3Atom_c hs hr (fun hb hlt=>?_) fun hb hlt=>zk12 (hpre hb hlt) hb fun hd=>hkid r hr (by omega) hb hlt hd
  exact l3Group_c hs (hpre hb hlt) hb (fun hd=>hkid r hr (by omega) hb hlt hd) fun hd=>ih _ ⟨by show r.a+1≤_;omega,by have:=hd;show r.d+1≤9;have h7:r.d≤7:=hd;omega,fun _=>by show r.d+1≤8;have h7:r.d≤7:=hd;omega⟩ (by show s.size+1≤r.a+1+f;omega)
set_option maxHeartbeats 4000000 in
theorem zg13 {s:ByteArray}(hs:s.size≤1048576):Ctr Tryz.prog 159 [.c (.v (.string s))] [] (.tu [.ag (owE (rexR s)),.c (.v (.bool (parI s)))]) []:=by
 rw [rexR_S,zz19]
 by_cases hbig:1000<s.size
 ·have hP:parS s=false:=by unfold parS;rw [decide_eq_false (by omega)];rfl
  rw [hP]
  refine zo2 Tryz.func159 rfl rfl ?_
  repeat' (first|(apply f_wo;first|(apply f_gs;refine n_sk ?_)|(apply f_mv;first|(refine zb2 ?_ ?_<;>intro hG<;>(try cases hG))|refine zj1 (v:=.c _) ?_|refine za ?_)|(apply f_as;first|refine zi1 (v:=.c _) ?_|refine za ?_)|(apply f_fa;first|refine n_fa ?_|refine zm1 ?_)|(apply f_ld;first|refine zq1 ?_|refine zx ?_|refine zw ?_|refine zo1 ?_|refine n_ld ?_)|(apply f_bi;first|refine zb1 ?_|refine za1 ?_|refine zc1 ?_|refine za ?_)|(apply f_st;first|refine n_st ?_|refine zx1 ?_)|(apply zm3;first|refine zy2 ?_|refine zx5 ?_|refine za ?_)|(apply zx3;first|refine zr1 ?_|refine za ?_)|(apply f_pk;first|refine za2 (v:=.c _) ?_|refine za ?_)|refine n_al ?_|refine n_bo ?_|refine za ?_)|(apply f_w;first|refine zv ?_|refine zc ?_)|refine zb fun C=>?_|refine zh ?_|refine zd ?_|refine zf ?_|refine zg ?_)
  refine zn (by rfl) (fun hC=>?_) fun hC=>by exfalso;simp only [decide_eq_false_iff_not] at hC;omega
  repeat' (first|(apply f_wo;first|(apply f_gs;refine n_sk ?_)|(apply f_mv;first|(refine zb2 ?_ ?_<;>intro hG<;>(try cases hG))|refine zj1 (v:=.c _) ?_|refine za ?_)|(apply f_as;first|refine zi1 (v:=.c _) ?_|refine za ?_)|(apply f_fa;first|refine n_fa ?_|refine zm1 ?_)|(apply f_ld;first|refine zq1 ?_|refine zx ?_|refine zw ?_|refine zo1 ?_|refine n_ld ?_)|(apply f_bi;first|refine zb1 ?_|refine za1 ?_|refine zc1 ?_|refine za ?_)|(apply f_st;first|refine n_st ?_|refine zx1 ?_)|(apply zm3;first|refine zy2 ?_|refine zx5 ?_|refine za ?_)|(apply zx3;first|refine zr1 ?_|refine za ?_)|(apply f_pk;first|refine za2 (v:=.c _) ?_|refine za ?_)|refine n_al ?_|refine n_bo ?_|refine za ?_)|(apply f_w;first|refine zv ?_|refine zc ?_)|refine zb fun C=>?_|refine zh ?_|refine zd ?_|refine zf ?_|refine zg ?_|refine zt rfl ?_|refine zp rfl ?_)
  refine zs4 (zs6 900 (i:=2) 208 3 rfl rfl (pre:=[_,_]) (post:=[]) rfl) ?_
  refine zu ?_;refine ret0 rfl (zg8 (zl4 (zy3 (zi3 rfl (zi3 rfl (zk3 rfl rfl rfl (by first|exact zq _|exact zo _|exact bytC_clo _|(simp [cloL,clo,zq,zo,ze1,zd1,zr];done)|(simp [cloL,clo,opC,opL,zq,zo,ze1,zd1,zr];done)) zn2)))) (zl4 zf3 zh6))) ⟨?_,rfl⟩
  rfl
 have hpre:Pre s p00:=⟨Nat.zero_le _,by show (0:Nat)≤9;omega,fun _=>by show (0:Nat)≤8;omega⟩
 have halt:=altS_c hs (s.size+8) p00 hpre (by show s.size+1≤0+(s.size+8);omega)
 have hgd:=zx16 hs (s.size+8) p00 hpre (by show s.size+1≤0+(s.size+8);omega)
 have hsz:(altS s (s.size+8) p00).2.b=false→(altS s (s.size+8) p00).1.sz≤4194304:=fun hb=>by
  have h1:=(zv19 (s.size+8) p00 rfl (by show (0:Nat)≤8;omega) hb).1
  have h2:=(zi10 hs).2.2
  unfold readI at h2
  rw [h1] at h2;omega
 unfold parS
 unfold readS
 rw [decide_eq_true (show s.size≤1000 by omega)]
 obtain⟨⟨e,q⟩,hq⟩:∃r,altS s (s.size+8) p00=r:=⟨_,rfl⟩
 rw [hq] at halt hgd hsz ⊢
 have hf:Fine e:=hgd.fine
 dsimp only at halt hsz ⊢
 have hty:=hf.ty.1
 obtain⟨qa,qd,qb⟩:=q
 dsimp only at hsz
 cases qb with
 | true =>
  cases hf with
  | mk k t l hk ht hl2 =>
  unfold rdrS at halt
  dsimp only [p00] at halt ⊢
  refine zo2 Tryz.func159 rfl rfl ?_
  repeat' (first|(apply f_wo;first|(apply f_gs;refine n_sk ?_)|(apply f_mv;first|(refine zb2 ?_ ?_<;>intro hG<;>(try cases hG))|refine zj1 (v:=.c _) ?_|refine za ?_)|(apply f_as;first|refine zi1 (v:=.c _) ?_|refine za ?_)|(apply f_fa;first|refine n_fa ?_|refine zm1 ?_)|(apply f_ld;first|refine zq1 ?_|refine zx ?_|refine zw ?_|refine zo1 ?_|refine n_ld ?_)|(apply f_bi;first|refine zb1 ?_|refine za1 ?_|refine zc1 ?_|refine za ?_)|(apply f_st;first|refine n_st ?_|refine zx1 ?_)|(apply zm3;first|refine zy2 ?_|refine zx5 ?_|refine za ?_)|(apply zx3;first|refine zr1 ?_|refine za ?_)|(apply f_pk;first|refine za2 (v:=.c _) ?_|refine za ?_)|refine n_al ?_|refine n_bo ?_|refine za ?_)|(apply f_w;first|refine zv ?_|refine zc ?_)|refine zb fun C=>?_|refine zh ?_|refine zd ?_|refine zf ?_|refine zg ?_)
  refine zn (by rfl) (fun hC=>by exfalso;simp only [decide_eq_true_iff] at hC;omega) fun hC=>?_
  repeat' (first|(apply f_wo;first|(apply f_gs;refine n_sk ?_)|(apply f_mv;first|(refine zb2 ?_ ?_<;>intro hG<;>(try cases hG))|refine zj1 (v:=.c _) ?_|refine za ?_)|(apply f_as;first|refine zi1 (v:=.c _) ?_|refine za ?_)|(apply f_fa;first|refine n_fa ?_|refine zm1 ?_)|(apply f_ld;first|refine zq1 ?_|refine zx ?_|refine zw ?_|refine zo1 ?_|refine n_ld ?_)|(apply f_ca;first|refine za3 12 (halt) ?_)|(apply f_bi;first|refine zb1 ?_|refine za1 ?_|refine zc1 ?_|refine za ?_)|(apply f_st;first|refine n_st ?_|refine zx1 ?_)|(apply zm3;first|refine zy2 ?_|refine zx5 ?_|refine za ?_)|(apply zx3;first|refine zr1 ?_|refine za ?_)|(apply f_pk;first|refine za2 (v:=.c _) ?_|refine za ?_)|refine n_al ?_|refine n_bo ?_|refine za ?_)|(apply f_w;first|refine zv ?_|refine zc ?_)|refine zb fun C=>?_|refine zh ?_|refine zd ?_|refine zf ?_|refine zg ?_|refine zt rfl ?_|refine zp rfl ?_)
  refine zs4 (zs6 900 (i:=2) 208 3 rfl rfl (pre:=[_,_]) (post:=[]) rfl) ?_
  refine zu ?_;refine ret0 rfl (zg8 (zl4 (zy3 (zi3 rfl (zi3 rfl (zk3 rfl rfl rfl (by first|exact zq _|exact zo _|exact bytC_clo _|(simp [cloL,clo,zq,zo,ze1,zd1,zr];done)|(simp [cloL,clo,opC,opL,zq,zo,ze1,zd1,zr];done)) zn2)))) (zl4 zf3 zh6))) ⟨?_,rfl⟩
  rfl
 | false =>
  have c2:=zd15 hty (hsz rfl)
  cases hf with
  | mk k t l hk ht hl2 =>
  unfold rdrS at halt
  dsimp only [p00] at halt ⊢
  refine zo2 Tryz.func159 rfl rfl ?_
  repeat' (first|(apply f_wo;first|(apply f_gs;refine n_sk ?_)|(apply f_mv;first|(refine zb2 ?_ ?_<;>intro hG<;>(try cases hG))|refine zj1 (v:=.c _) ?_|refine za ?_)|(apply f_as;first|refine zi1 (v:=.c _) ?_|refine za ?_)|(apply f_fa;first|refine n_fa ?_|refine zm1 ?_)|(apply f_ld;first|refine zq1 ?_|refine zx ?_|refine zw ?_|refine zo1 ?_|refine n_ld ?_)|(apply f_bi;first|refine zb1 ?_|refine za1 ?_|refine zc1 ?_|refine za ?_)|(apply f_st;first|refine n_st ?_|refine zx1 ?_)|(apply zm3;first|refine zy2 ?_|refine zx5 ?_|refine za ?_)|(apply zx3;first|refine zr1 ?_|refine za ?_)|(apply f_pk;first|refine za2 (v:=.c _) ?_|refine za ?_)|refine n_al ?_|refine n_bo ?_|refine za ?_)|(apply f_w;first|refine zv ?_|refine zc ?_)|refine zb fun C=>?_|refine zh ?_|refine zd ?_|refine zf ?_|refine zg ?_)
  refine zn (by rfl) (fun hC=>by exfalso;simp only [decide_eq_true_iff] at hC;omega) fun hC=>?_
  repeat' (first|(apply f_wo;first|(apply f_gs;refine n_sk ?_)|(apply f_mv;first|(refine zb2 ?_ ?_<;>intro hG<;>(try cases hG))|refine zj1 (v:=.c _) ?_|refine za ?_)|(apply f_as;first|refine zi1 (v:=.c _) ?_|refine za ?_)|(apply f_fa;first|refine n_fa ?_|refine zm1 ?_)|(apply f_ld;first|refine zq1 ?_|refine zx ?_|refine zw ?_|refine zo1 ?_|refine n_ld ?_)|(apply f_ca;first|refine za3 12 (halt) ?_|refine zz2 c2 ?_|refine zx2 c2 ?_)|(apply f_bi;first|refine zb1 ?_|refine za1 ?_|refine zc1 ?_|refine za ?_)|(apply f_st;first|refine n_st ?_|refine zx1 ?_)|(apply zm3;first|refine zy2 ?_|refine zx5 ?_|refine za ?_)|(apply zx3;first|refine zr1 ?_|refine za ?_)|(apply f_pk;first|refine za2 (v:=.c _) ?_|refine za ?_)|refine n_al ?_|refine n_bo ?_|refine za ?_)|(apply f_w;first|refine zv ?_|refine zc ?_)|refine zb fun C=>?_|refine zh ?_|refine zd ?_|refine zf ?_|refine zg ?_)
  ·repeat' (first|(apply f_wo;first|(apply f_gs;refine n_sk ?_)|(apply f_mv;first|(refine zb2 ?_ ?_<;>intro hG<;>(try cases hG))|refine zj1 (v:=.c _) ?_|refine za ?_)|(apply f_as;first|refine zi1 (v:=.c _) ?_|refine za ?_)|(apply f_fa;first|refine n_fa ?_|refine zm1 ?_)|(apply f_ld;first|refine zq1 ?_|refine zx ?_|refine zw ?_|refine zo1 ?_|refine n_ld ?_)|(apply f_bi;first|refine zb1 ?_|refine za1 ?_|refine zc1 ?_|refine za ?_)|(apply f_st;first|refine n_st ?_|refine zx1 ?_)|(apply zm3;first|refine zy2 ?_|refine zx5 ?_|refine za ?_)|(apply zx3;first|refine zr1 ?_|refine za ?_)|(apply f_pk;first|refine za2 (v:=.c _) ?_|refine za ?_)|refine n_al ?_|refine n_bo ?_|refine za ?_)|(apply f_w;first|refine zv ?_|refine zc ?_)|refine zb fun C=>?_|refine zh ?_|refine zd ?_|refine zf ?_|refine zg ?_|refine zt rfl ?_|refine zp rfl ?_)
   refine zs4 (zs6 900 (i:=2) 208 3 rfl rfl (pre:=[_,_]) (post:=[]) rfl) ?_
   refine zu ?_;refine ret0 rfl (zg8 (zl4 (zy3 (zi3 rfl (zi3 rfl (zk3 rfl rfl rfl (by first|exact zq _|exact zo _|exact bytC_clo _|(simp [cloL,clo,zq,zo,ze1,zd1,zr];done)|(simp [cloL,clo,opC,opL,zq,zo,ze1,zd1,zr];done)) zn2)))) (zl4 zf3 zh6))) ⟨?_,rfl⟩
   have hP:(true&&!false&&(qa==s.size)&&(rexT (rexE k t l)).toList==s.toList)=false:=by clear halt c2;first|(simp_all;done)|(simp_all;(try intros);omega)
   rw [hP];rfl
  ·refine zn (by rfl) (fun hC=>?_) fun hC=>?_
   ·repeat' (first|(apply f_wo;first|(apply f_gs;refine n_sk ?_)|(apply f_mv;first|(refine zb2 ?_ ?_<;>intro hG<;>(try cases hG))|refine zj1 (v:=.c _) ?_|refine za ?_)|(apply f_as;first|refine zi1 (v:=.c _) ?_|refine za ?_)|(apply f_fa;first|refine n_fa ?_|refine zm1 ?_)|(apply f_ld;first|refine zq1 ?_|refine zx ?_|refine zw ?_|refine zo1 ?_|refine n_ld ?_)|(apply f_bi;first|refine zb1 ?_|refine za1 ?_|refine zc1 ?_|refine za ?_)|(apply f_st;first|refine n_st ?_|refine zx1 ?_)|(apply zm3;first|refine zy2 ?_|refine zx5 ?_|refine za ?_)|(apply zx3;first|refine zr1 ?_|refine za ?_)|(apply f_pk;first|refine za2 (v:=.c _) ?_|refine za ?_)|refine n_al ?_|refine n_bo ?_|refine za ?_)|(apply f_w;first|refine zv ?_|refine zc ?_)|refine zb fun C=>?_|refine zh ?_|refine zd ?_|refine zf ?_|refine zg ?_|refine zt rfl ?_|refine zp rfl ?_)
    refine zs4 (zs6 900 (i:=2) 208 3 rfl rfl (pre:=[_,_]) (post:=[]) rfl) ?_
    refine zu ?_;refine ret0 rfl (zg8 (zl4 (zy3 (zi3 rfl (zi3 rfl (zk3 rfl rfl rfl (by first|exact zq _|exact zo _|exact bytC_clo _|(simp [cloL,clo,zq,zo,ze1,zd1,zr];done)|(simp [cloL,clo,opC,opL,zq,zo,ze1,zd1,zr];done)) zn2)))) (zl4 zf3 zh6))) ⟨?_,rfl⟩
    have hP:(true&&!false&&(qa==s.size)&&(rexT (rexE k t l)).toList==s.toList)=false:=by clear halt c2;first|(simp_all;done)|(simp_all;(try intros);omega)
    rw [hP];rfl
   ·repeat' (first|(apply f_wo;first|(apply f_gs;refine n_sk ?_)|(apply f_mv;first|(refine zb2 ?_ ?_<;>intro hG<;>(try cases hG))|refine zj1 (v:=.c _) ?_|refine za ?_)|(apply f_as;first|refine zi1 (v:=.c _) ?_|refine za ?_)|(apply f_fa;first|refine n_fa ?_|refine zm1 ?_)|(apply f_ld;first|refine zq1 ?_|refine zx ?_|refine zw ?_|refine zo1 ?_|refine n_ld ?_)|(apply f_bi;first|refine zb1 ?_|refine za1 ?_|refine zc1 ?_|refine za ?_)|(apply f_st;first|refine n_st ?_|refine zx1 ?_)|(apply zm3;first|refine zy2 ?_|refine zx5 ?_|refine za ?_)|(apply zx3;first|refine zr1 ?_|refine za ?_)|(apply f_pk;first|refine za2 (v:=.c _) ?_|refine za ?_)|refine n_al ?_|refine n_bo ?_|refine za ?_)|(apply f_w;first|refine zv ?_|refine zc ?_)|refine zb fun C=>?_|refine zh ?_|refine zd ?_|refine zf ?_|refine zg ?_|refine zt rfl ?_|refine zp rfl ?_)
    refine zu ?_;refine ret0 rfl (zg8 (zl4 (zy3 (zi3 rfl (zi3 rfl (zk3 rfl rfl rfl (by first|exact zq _|exact zo _|exact bytC_clo _|(simp [cloL,clo,zq,zo,ze1,zd1,zr];done)|(simp [cloL,clo,opC,opL,zq,zo,ze1,zd1,zr];done)) zn2)))) (zl4 zf3 zh6))) ⟨?_,rfl⟩
    have hP:(true&&!false&&(qa==s.size)&&(rexT (rexE k t l)).toList==s.toList)=true:=by clear halt c2;first|(simp_all;done)|(simp_all;(try intros);omega)
    rw [hP];rfl
end Go.Proofs.YtghljnfbbaklnaaGreat
