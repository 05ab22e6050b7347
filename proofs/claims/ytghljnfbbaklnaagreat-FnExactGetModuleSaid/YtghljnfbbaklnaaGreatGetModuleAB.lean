/- The program's ParseRex: by the abstract machine. -/
import Derived.Test.YtghljnfbbaklnaaGreatGetModuleAA
namespace Go.Proofs.YtghljnfbbaklnaaGreat
open Go.RowKit
set_option maxRecDepth 100000
theorem altI_c {s:ByteArray}(hs:s.size≤1048576)(f:Nat):∀p:PS,p.a≤s.size→p.d≤p.a→s.size+1≤p.a+f→Ctr Tryz.prog 188 [.c (.pt 0 0)] [rdrI s p] (.ag (owE (altI s f p).1)) [rdrI s (altI s f p).2]:=by
 induction f with
 | zero=>intro p h1 h2 h3;omega
 | succ f ih =>
  intro p h1 h2 h3
  have hat:∀r:PS,r.a<s.size→p.a≤r.a→Good s r (atomI s (altI s f) r) 1 1 0:=fun r hr hra=>zx12 hs hr (zf11 hs f _ (by show r.a+1≤_;omega) (by show s.size+1≤r.a+1+f;omega))
  refine alt_c hs h1 h2 (fun q hq hqd hqa=>zy15 hq fun r hr hrd hra=>zv8 (hat r hr (by omega))) fun q hq hqd hqa=>?_
  refine cat_c hs hq (by omega) (fun r hr hrd hra=>zv8 (hat r hr (by omega))) fun r hr hrd hra=>?_
  refine item_c hs (hat r hr (by omega)) ?_
  exact atom_c hs hr (by omega) (zf11 hs f _ (by show r.a+1≤_;omega) (by show s.size+1≤r.a+1+f;omega)) (ih _ (by show r.a+1≤_;omega) (by show r.d≤r.a+1;omega) (by show s.size+1≤r.a+1+f;omega))
theorem zy8 {s:ByteArray}(hs:s.size≤1048576):Fine (readI s).1∧(readI s).2.a≤s.size∧(readI s).1.sz≤2*s.size+1:=by
 obtain⟨g1,g2,g3,g4,g5⟩:=zf11 hs (s.size+8) p00 (Nat.zero_le _) (by show s.size+1≤0+(s.size+8);omega)
 have e0:p00.a=0:=rfl
 exact⟨g1,g3,by unfold readI;omega⟩
set_option maxHeartbeats 4000000 in
theorem ze12 {s:ByteArray}(hs:s.size≤1048576):Ctr Tryz.prog 165 [.c (.v (.string s))] [] (.tu [.ag (owE (rexR s)),.c (.v (.bool (parI s)))]) []:=by
 have halt:=altI_c hs (s.size+8) p00 (Nat.zero_le _) (Nat.le_refl _) (by show s.size+1≤0+(s.size+8);omega)
 obtain⟨hf,hle,hsz⟩:=zy8 hs
 unfold rexR parI
 unfold readI at hf hle hsz ⊢
 obtain⟨⟨e,q⟩,hq⟩:∃r,altI s (s.size+8) p00=r:=⟨_,rfl⟩
 rw [hq] at halt hf hle hsz ⊢
 dsimp only at halt hf hle hsz ⊢
 have hty:=hf.ty.1
 have c1:=zh11 hty (by omega)
 have c2:=zh14 hty (by omega)
 cases hf with
 | mk k t l hk ht hl2 =>
 obtain⟨qa,qd,qb⟩:=q
 unfold rdrI at halt
 dsimp only [p00] at halt hle ⊢
 refine zi1 Tryz.func165 rfl rfl ?_
 repeat' (first|(apply f_wo;first|(apply f_gs;refine n_sk ?_)|(apply f_mv;first|(refine zs1 ?_ ?_<;>intro hG<;>(try cases hG))|refine zt (v:=.c _) ?_)|(apply f_as;refine zu (v:=.c _) ?_)|(apply f_fa;refine n_fa ?_)|(apply f_ld;first|refine zn1 ?_|refine zq2 ?_)|(apply f_ca;first|refine zy1 8 (halt) ?_|refine zu1 c1 ?_|refine zu1 c2 ?_)|(apply f_bi;refine zj6 ?_)|(apply f_st;refine n_st ?_)|(apply zh4;first|refine zs2 ?_|refine n_neq_s ?_)|(apply f_no;refine za2 ?_)|(apply f_pk;refine zr1 (v:=.c _) ?_)|refine n_al ?_|refine n_bo ?_|refine zh1 ?_)|(apply f_w;first|refine zo ?_|refine zc ?_)|refine za fun C=>?_|refine zd ?_)
 ·repeat' (first|(apply f_wo;first|(apply f_as;refine zu (v:=.c _) ?_)|(apply f_st;refine n_st ?_)|refine zh1 ?_)|(apply f_w;first|refine zo ?_|refine zc ?_)|refine za fun C=>?_|refine zd ?_|refine zq rfl ?_)
  refine ze2 (zb3 900 (i:=2) 208 3 rfl rfl (pre:=[_,_]) (post:=[]) rfl) ?_
  refine zi ?_;refine ret0 rfl (zc2 (zj (zq1 (zd1 rfl (zd1 rfl (zl1 rfl rfl rfl (by first|exact zf _|exact ze _|exact bytC_clo _|(simp [cloL,clo,zf,ze,zm,zl,zh];done)|(simp [cloL,clo,opC,opL,zf,ze,zm,zl,zh];done)) ze1)))) (zj zy zj1))) ⟨?_,rfl⟩
  have hP:(!true&&(qa==s.size)&&rexOkI (rexE k t l)&&(rexT (rexE k t l)).toList==s.toList)=false:=by clear halt c1 c2;first|(simp_all;done)|(simp_all;(try intros);omega)
  rw [hP];rfl
 ·repeat' (first|(apply f_wo;first|(apply f_as;refine zu (v:=.c _) ?_)|(apply f_st;refine n_st ?_)|refine zh1 ?_)|(apply f_w;first|refine zo ?_|refine zc ?_)|refine za fun C=>?_|refine zd ?_|refine zq rfl ?_)
  refine ze2 (zb3 900 (i:=2) 208 3 rfl rfl (pre:=[_,_]) (post:=[]) rfl) ?_
  refine zi ?_;refine ret0 rfl (zc2 (zj (zq1 (zd1 rfl (zd1 rfl (zl1 rfl rfl rfl (by first|exact zf _|exact ze _|exact bytC_clo _|(simp [cloL,clo,zf,ze,zm,zl,zh];done)|(simp [cloL,clo,opC,opL,zf,ze,zm,zl,zh];done)) ze1)))) (zj zy zj1))) ⟨?_,rfl⟩
  have hP:(!false&&(qa==s.size)&&rexOkI (rexE k t l)&&(rexT (rexE k t l)).toList==s.toList)=false:=by clear halt c1 c2;first|(simp_all;done)|(simp_all;(try intros);omega)
  rw [hP];rfl
 ·repeat' (first|(apply f_wo;first|(apply f_as;refine zu (v:=.c _) ?_)|(apply f_st;refine n_st ?_)|refine zh1 ?_)|(apply f_w;first|refine zo ?_|refine zc ?_)|refine za fun C=>?_|refine zd ?_|refine zq rfl ?_)
  refine ze2 (zb3 900 (i:=2) 208 3 rfl rfl (pre:=[_,_]) (post:=[]) rfl) ?_
  refine zi ?_;refine ret0 rfl (zc2 (zj (zq1 (zd1 rfl (zd1 rfl (zl1 rfl rfl rfl (by first|exact zf _|exact ze _|exact bytC_clo _|(simp [cloL,clo,zf,ze,zm,zl,zh];done)|(simp [cloL,clo,opC,opL,zf,ze,zm,zl,zh];done)) ze1)))) (zj zy zj1))) ⟨?_,rfl⟩
  have hP:(!false&&(qa==s.size)&&rexOkI (rexE k t l)&&(rexT (rexE k t l)).toList==s.toList)=false:=by clear halt c1 c2;first|(simp_all;done)|(simp_all;(try intros);omega)
  rw [hP];rfl
 ·refine zn (by rfl) (fun hC=>?_) fun hC=>?_
  ·repeat' (first|(apply f_wo;first|(apply f_as;refine zu (v:=.c _) ?_)|(apply f_st;refine n_st ?_)|refine zh1 ?_)|(apply f_w;first|refine zo ?_|refine zc ?_)|refine za fun C=>?_|refine zd ?_)
   refine ze2 (zb3 900 (i:=2) 208 3 rfl rfl (pre:=[_,_]) (post:=[]) rfl) ?_
   refine zi ?_;refine ret0 rfl (zc2 (zj (zq1 (zd1 rfl (zd1 rfl (zl1 rfl rfl rfl (by first|exact zf _|exact ze _|exact bytC_clo _|(simp [cloL,clo,zf,ze,zm,zl,zh];done)|(simp [cloL,clo,opC,opL,zf,ze,zm,zl,zh];done)) ze1)))) (zj zy zj1))) ⟨?_,rfl⟩
   have hP:(!false&&(qa==s.size)&&rexOkI (rexE k t l)&&(rexT (rexE k t l)).toList==s.toList)=false:=by clear halt c1 c2;first|(simp_all;done)|(simp_all;(try intros);omega)
   rw [hP];rfl
  ·repeat' (first|(apply f_wo;first|(apply f_as;refine zu (v:=.c _) ?_)|(apply f_ld;refine zq2 ?_)|(apply f_st;refine n_st ?_))|(apply f_w;first|refine zo ?_|refine zc ?_)|refine za fun C=>?_|refine zd ?_|refine zk ?_)
   refine zi ?_;refine ret0 rfl (zc2 (zj (zq1 (zd1 rfl (zd1 rfl (zl1 rfl rfl rfl (by first|exact zf _|exact ze _|exact bytC_clo _|(simp [cloL,clo,zf,ze,zm,zl,zh];done)|(simp [cloL,clo,opC,opL,zf,ze,zm,zl,zh];done)) ze1)))) (zj zy zj1))) ⟨?_,rfl⟩
   have hP:(!false&&(qa==s.size)&&rexOkI (rexE k t l)&&(rexT (rexE k t l)).toList==s.toList)=true:=by clear halt c1 c2;first|(simp_all;done)|(simp_all;(try intros);omega)
   rw [hP];rfl
set_option maxHeartbeats 8000000 in
theorem l3Alt_c {s:ByteArray}(hs:s.size≤1048576){cat:PS→E×PS}{p0:PS}(hp:Pre s p0)
 (hg:∀q,Pre s q→p0.a≤q.a→GoodS s q (cat q))
 (hi:∀q,Pre s q→p0.a≤q.a→Ctr Tryz.prog 202 [.c (.pt 0 0)] [rdrS s q] (.ag (owE (cat q).1)) [rdrS s (cat q).2]) :
 Ctr Tryz.prog 185 [.c (.pt 0 0)] [rdrS s p0] (.ag (owE (altC s cat p0).1)) [rdrS s (altC s cat p0).2]:=by
 have hic0:=hi p0 hp (Nat.le_refl _)
 have hg0:=hg p0 hp (Nat.le_refl _)
 have hL0:=GoodLS.one hg0
 have hr:altC s cat p0=(oneOr 5 (altLoopS s cat (s.size+1) [(cat p0).1] (cat p0).2).1,(altLoopS s cat (s.size+1) [(cat p0).1] (cat p0).2).2):=rfl
 rw [hr]
 clear hr
 obtain⟨⟨e,q0⟩,hq0⟩:∃r,cat p0=r:=⟨_,rfl⟩
 rw [hq0] at hic0 hg0 hL0 ⊢
 have hfi:Fine e:=hg0.fine
 dsimp only at hic0 hL0 ⊢
 cases hfi with
 | mk k t l hk ht hl2 =>
 refine zi1 Tryz.func185 rfl rfl ?_
 repeat' (first|(apply f_wo;first|(apply f_mv;refine zt (v:=.c _) ?_)|(apply f_as;refine zu (v:=.c _) ?_)|(apply f_ca;refine zy1 0 (hic0) ?_)|refine n_al ?_|refine n_bs ?_)|(apply f_w;first|refine zo ?_|refine zc ?_)|refine za fun C=>?_|refine zd ?_|refine zg ?_)
 refine zt1 (fun q:List E×PS=>⟨tmsF [(0,.c (.pt 0 0)),(2,.c (.pt 2 0)),(3,.c (.sl 9 q.1.length))],hpsF [(0,0,⟨0,0,0,true,rdrS s q.2⟩),(2,2,⟨208,0,0,true,[.v (.int .i64 0),.v (.string ByteArray.empty),.v (.slice none 0 0)]⟩),(9,9,⟨208,3,q.1.length,false,owL q.1⟩)],1,[0,2,9],22⟩)
  (fun N q=>GoodLS s p0 q.1 q.2∧s.size+1≤q.2.a+N∧altLoopS s cat N q.1 q.2=altLoopS s cat (s.size+1) [rexE k t l] q0) (s.size+1) ([rexE k t l],q0) ⟨hL0,by dsimp only;omega,rfl⟩ ?_ ?_
 ·refine (ze7 (i:=6) (j:=600) rfl rfl rfl (pre:=[_,_]) (post:=[]) rfl).trans ?_
  (refine zf4 (fun j=>if j=9 then 6 else j) _ _ rfl rfl ?_ ?_<;>(repeat' (first|exact TmOk.nil|exact RwOk.nil|refine TmOk.cons ?_ ?_|refine RwOk.cons ?_ ?_|rfl|(refine rnV_id' rfl ?_;exact byc)|(refine zo1 ?_;first|rfl|omega|(rw [za1 (by omega) (by omega)];omega))|(refine zv rfl ?_;exact byc)|exact zg2 rfl rfl|(refine zp1 (by rfl) (by rfl) ?_ ?_<;>exact byc)|(refine rw_rn' rfl rfl ?_;simp;done))))
 rintro N ⟨L,q⟩ ⟨hgl,hN,htot⟩
 dsimp only at hgl hN htot ⊢
 have hpre:=hgl.pre hp
 have hbar:=zk11 hs (c:=124) (by omega) (p:=q)
 obtain⟨a,d,b⟩:=q
 have hlen:=hgl.len.1
 have hale:a≤s.size:=hgl.le
 dsimp only at hlen hN
 cases hgo:isB s 124 ⟨a,d,b⟩ with
 | true =>
  obtain⟨hb,hlt,hv⟩:=zn9 hgo
  dsimp only at hb hlt hv
  subst hb
  rw [zk7 hgo,hgo] at hbar
  obtain⟨M,rfl⟩:∃M,N=M+1:=⟨N-1,by omega⟩
  have hpre2:Pre s ⟨a+1,d,false⟩:=⟨by show a+1≤_;omega,hpre.2.1,hpre.2.2⟩
  have hge:p0.a≤a:=hgl.ge
  have hic:=hi ⟨a+1,d,false⟩ hpre2 (by show p0.a≤a+1;omega)
  have hgd:=hg ⟨a+1,d,false⟩ hpre2 (by show p0.a≤a+1;omega)
  have hst:altLoopS s cat (M+1) L ⟨a,d,false⟩=altLoopS s cat M (L++[(cat ⟨a+1,d,false⟩).1]) (cat ⟨a+1,d,false⟩).2:=by
   show (if isB s 124 ⟨a,d,false⟩ then _ else _)=_
   rw [if_pos hgo];rfl
  rw [hst] at htot
  clear hst hi hg hic0
  have hge2:a+1≤(cat ⟨a+1,d,false⟩).2.a:=hgd.ge
  have hgl2:=hgl.step rfl (r:=cat ⟨a+1,d,false⟩) ⟨⟨hgd.fine,by show a≤_;omega,hgd.le,hgd.dg,hgd.dl,hgd.nb⟩,fun _=>by show a<_;omega⟩
  obtain⟨⟨e2,q2⟩,hq2⟩:∃r,cat ⟨a+1,d,false⟩=r:=⟨_,rfl⟩
  rw [hq2] at hic htot hgd hgl2 hge2
  dsimp only at hic htot hgd hgl2 hge2
  have hfi2:Fine e2:=hgd.fine
  cases hfi2 with
  | mk k' t' l' hk' ht' hl2' =>
  unfold rdrS at hbar hic ⊢
  dsimp only [PS.go] at hbar hic ⊢
  repeat' (first|(apply f_wo;first|(apply f_mv;refine zt (v:=.c _) ?_)|(apply f_as;refine zu (v:=.c _) ?_)|(apply f_ca;first|refine zy1 0 (hbar) ?_|refine zy1 0 (hic) ?_)|(apply f_bi;refine zi6 ?_)|refine n_bs ?_)|(apply f_w;first|refine zo ?_|refine zc ?_)|refine za fun C=>?_|refine zd ?_|refine zg ?_|refine zk ?_|refine zq rfl ?_)
  refine⟨M,(L++[rexE k' t' l'],q2),by omega,⟨hgl2,by dsimp only;omega,htot⟩,?_⟩
  dsimp only
  rw [List.length_append,List.length_singleton]
  refine (ze7 (i:=13) (j:=1200) rfl rfl rfl (pre:=owL L++[.v (.int .i64 k'),.v (.string t')]) (post:=[]) (by rw [List.append_assoc];rfl)).trans ?_
  (refine zf4 (fun j=>if j=9 then 13 else j) _ _ rfl rfl ?_ ?_<;>(repeat' (first|exact TmOk.nil|exact RwOk.nil|refine TmOk.cons ?_ ?_|refine RwOk.cons ?_ ?_|rfl|(refine rnV_id' rfl ?_;exact byc)|(refine zo1 ?_;first|rfl|omega|(rw [za1 (by omega) (by omega)];omega))|(refine zv rfl ?_;exact byc)|exact zg2 rfl rfl|(refine zp1 (by rfl) (by rfl) ?_ ?_<;>exact byc)|(refine rw_rn' rfl rfl ?_;simp;done))))
  exact zd7 (r:=⟨208,3,L.length+1,false,(owL L++[.v (.int .i64 k'),.v (.string t')])++[.ow 208 l'.length 3 (owL l')]⟩) rfl (by rw [zc7,List.append_assoc];rfl) (by first|rfl|(simp [cloV,cloL,clo,zl,ze,zm,zf,zh];done))
 | false =>
  rw [zx17 hgo] at htot
  rw [←htot]
  rw [zm11 hgo,hgo] at hbar
  have hfine:=hgl.fine
  have hne:=hgl.ne
  clear htot hi hg hic0 hL0 hgl hpre hg0
  unfold rdrS at hbar ⊢
  dsimp only at hbar ⊢
  match L,hfine,hne with
  | [],_,h0=>exact absurd h0 (by simp)
  | [x],hf,_ =>
   have hx:=hf x (List.mem_singleton.2 rfl)
   cases hx with
   | mk k' t' l' hk' ht' hl2' =>
   repeat' (first|(apply f_wo;first|(apply f_mv;refine zt (v:=.c _) ?_)|(apply f_ca;refine zy1 0 (hbar) ?_))|(apply f_w;first|refine zo ?_|refine zc ?_)|refine za fun C=>?_|refine zd ?_)
   refine zr rfl ?_
   refine ze2 (g_rev 800 (i:=9) rfl rfl (pre:=[.v (.int .i64 k'),.v (.string t')]) (post:=[]) rfl) ?_
   repeat' (first|(apply f_wo;first|(apply f_mv;refine zt (v:=.c _) ?_)|(apply f_ld;refine zq2 ?_)|(apply f_bi;refine zx5 ?_)|(apply f_st;refine n_st ?_)|(apply f_ia;refine n_ixs ?_)|(apply zx1;refine zb1 ?_))|(apply f_w;first|refine zo ?_|refine zc ?_)|refine za fun C=>?_|refine zd ?_|refine zw ?_|refine zq rfl ?_)
   refine zi ?_;refine ret1 rfl (zq1 (zd1 rfl (zd1 rfl (zl1 rfl rfl rfl (by first|exact zf _|exact ze _|exact bytC_clo _|(simp [cloL,clo,zf,ze,zm,zl,zh];done)|(simp [cloL,clo,opC,opL,zf,ze,zm,zl,zh];done)) ze1)))) rfl (by first|rfl|(simp [cloL,clo,zf,ze,zm,zl,zh];done)) rfl ⟨?_,?_⟩<;>rfl
  | x :: y :: r,hf,_ =>
   have hlen2:(x :: y :: r).length=r.length+2:=rfl
   repeat' (first|(apply f_wo;first|(apply f_mv;refine zt (v:=.c _) ?_)|(apply f_ca;refine zy1 0 (hbar) ?_)|(apply f_bi;refine zx5 ?_)|(apply f_st;refine n_st ?_)|(apply zx1;refine zb1 ?_)|refine zh1 ?_)|(apply f_w;first|refine zo ?_|refine zc ?_)|refine za fun C=>?_|refine zd ?_|refine zk ?_|refine zw ?_|refine zr rfl ?_)
   refine zi ?_;refine ret1 rfl (zq1 (zd1 rfl (zd1 rfl (zl1 rfl rfl rfl (by first|exact zf _|exact ze _|exact bytC_clo _|(simp [cloL,clo,zf,ze,zm,zl,zh];done)|(simp [cloL,clo,opC,opL,zf,ze,zm,zl,zh];done)) ze1)))) rfl (by first|rfl|(simp [cloL,clo,zf,ze,zm,zl,zh];done)) rfl ⟨?_,?_⟩<;>rfl
theorem altS_c {s:ByteArray}(hs:s.size≤1048576)(f:Nat):∀p:PS,Pre s p→s.size+1≤p.a+f→Ctr Tryz.prog 185 [.c (.pt 0 0)] [rdrS s p] (.ag (owE (altS s f p).1)) [rdrS s (altS s f p).2]:=by
 induction f with
 | zero=>intro p h1 h2;have:=h1.1;omega
 | succ f ih =>
  intro p h1 h2
  have hkid:∀r:PS,Pre s r→p.a≤r.a→r.b=false→r.a<s.size→r.d≤7→GoodS s ⟨r.a+1,r.d+1,r.b⟩ (altS s f ⟨r.a+1,r.d+1,r.b⟩):=fun r hr hra hb hlt hd=>zd16 hs f _ ⟨by show r.a+1≤_;omega,by show r.d+1≤9;omega,fun _=>by show r.d+1≤8;omega⟩ (by show s.size+1≤r.a+1+f;omega)
  have hat:∀r:PS,Pre s r→p.a≤r.a→GoodS s r (atomS s (altS s f) r)∧((atomS s (altS s f) r).2.b=false→r.a<(atomS s (altS s f) r).2.a):=fun r hr hra=>za13 hs hr fun hb hlt hd=>hkid r hr hra hb hlt hd
  refine l3Alt_c hs h1 (fun q hq hqa=>zc16 hq fun r hr hra=>zx8 (hat r hr (by omega))) fun q hq hqa=>?_
  refine l3Cat_c hs hq (fun r hr hra=>zx8 (hat r hr (by omega))) fun r hr hra=>?_
  refine l3Item_c hs (hat r hr (by omega)).1 ?_
  have hpre:r.b=false→r.a<s.size→Pre s (r.go 1):=fun hb hlt=>⟨by show r.a+1≤_;omega,hr.2.1,hr.2.2⟩
  refine l3Atom_c hs hr (fun hb hlt=>?_) fun hb hlt=>zi11 (hpre hb hlt) hb fun hd=>hkid r hr (by omega) hb hlt hd
  exact l3Group_c hs (hpre hb hlt) hb (fun hd=>hkid r hr (by omega) hb hlt hd) fun hd=>ih _ ⟨by show r.a+1≤_;omega,by have:=hd;show r.d+1≤9;have h7:r.d≤7:=hd;omega,fun _=>by show r.d+1≤8;have h7:r.d≤7:=hd;omega⟩ (by show s.size+1≤r.a+1+f;omega)
set_option maxHeartbeats 4000000 in
theorem zf12 {s:ByteArray}(hs:s.size≤1048576):Ctr Tryz.prog 159 [.c (.v (.string s))] [] (.tu [.ag (owE (rexR s)),.c (.v (.bool (parI s)))]) []:=by
 rw [rexR_S,zq19]
 by_cases hbig:1000<s.size
 ·have hP:parS s=false:=by unfold parS;rw [decide_eq_false (by omega)];rfl
  rw [hP]
  refine zi1 Tryz.func159 rfl rfl ?_
  repeat' (first|(apply f_wo;first|(apply f_mv;refine zt (v:=.c _) ?_)|(apply f_as;refine zu (v:=.c _) ?_)|(apply f_bi;refine zj6 ?_)|(apply zi4;refine zh2 ?_)|refine n_al ?_)|(apply f_w;first|refine zo ?_|refine zc ?_)|refine za fun C=>?_|refine zd ?_)
  refine zn (by rfl) (fun hC=>?_) fun hC=>by exfalso;simp only [decide_eq_false_iff_not] at hC;omega
  repeat' (first|(apply f_wo;first|(apply f_as;refine zu (v:=.c _) ?_)|(apply f_st;refine n_st ?_)|refine zh1 ?_)|(apply f_w;first|refine zo ?_|refine zc ?_)|refine za fun C=>?_|refine zd ?_)
  refine ze2 (zb3 900 (i:=2) 208 3 rfl rfl (pre:=[_,_]) (post:=[]) rfl) ?_
  refine zi ?_;refine ret0 rfl (zc2 (zj (zq1 (zd1 rfl (zd1 rfl (zl1 rfl rfl rfl (by first|exact zf _|exact ze _|exact bytC_clo _|(simp [cloL,clo,zf,ze,zm,zl,zh];done)|(simp [cloL,clo,opC,opL,zf,ze,zm,zl,zh];done)) ze1)))) (zj zy zj1))) ⟨?_,rfl⟩
  rfl
 have hpre:Pre s p00:=⟨Nat.zero_le _,by show (0:Nat)≤9;omega,fun _=>by show (0:Nat)≤8;omega⟩
 have halt:=altS_c hs (s.size+8) p00 hpre (by show s.size+1≤0+(s.size+8);omega)
 have hgd:=zd16 hs (s.size+8) p00 hpre (by show s.size+1≤0+(s.size+8);omega)
 have hsz:(altS s (s.size+8) p00).2.b=false→(altS s (s.size+8) p00).1.sz≤4194304:=fun hb=>by
  have h1:=(zm19 (s.size+8) p00 rfl (by show (0:Nat)≤8;omega) hb).1
  have h2:=(zy8 hs).2.2
  unfold readI at h2
  rw [h1] at h2;omega
 unfold parS
 unfold readS
 rw [decide_eq_true (show s.size≤1000 by omega)]
 obtain⟨⟨e,q⟩,hq⟩:∃r,altS s (s.size+8) p00=r:=⟨_,rfl⟩
 rw [hq] at halt hgd hsz ⊢
 have hf:Fine e:=hgd.fine
 dsimp only at halt hsz ⊢
 have hty:=hf.ty.1
 obtain⟨qa,qd,qb⟩:=q
 dsimp only at hsz
 cases qb with
 | true =>
  cases hf with
  | mk k t l hk ht hl2 =>
  unfold rdrS at halt
  dsimp only [p00] at halt ⊢
  refine zi1 Tryz.func159 rfl rfl ?_
  repeat' (first|(apply f_wo;first|(apply f_mv;refine zt (v:=.c _) ?_)|(apply f_as;refine zu (v:=.c _) ?_)|(apply f_bi;refine zj6 ?_)|(apply zi4;refine zh2 ?_)|refine n_al ?_)|(apply f_w;first|refine zo ?_|refine zc ?_)|refine za fun C=>?_|refine zd ?_)
  refine zn (by rfl) (fun hC=>by exfalso;simp only [decide_eq_true_iff] at hC;omega) fun hC=>?_
  repeat' (first|(apply f_wo;first|(apply f_gs;refine n_sk ?_)|(apply f_mv;first|(refine zs1 ?_ ?_<;>intro hG<;>(try cases hG))|refine zt (v:=.c _) ?_)|(apply f_as;refine zu (v:=.c _) ?_)|(apply f_fa;refine n_fa ?_)|(apply f_ld;refine zn1 ?_)|(apply f_ca;refine zy1 12 (halt) ?_)|(apply f_st;refine n_st ?_)|(apply f_pk;refine zr1 (v:=.c _) ?_)|refine n_al ?_|refine n_bo ?_|refine zh1 ?_)|(apply f_w;first|refine zo ?_|refine zc ?_)|refine za fun C=>?_|refine zd ?_|refine zk ?_|refine zq rfl ?_)
  refine ze2 (zb3 900 (i:=2) 208 3 rfl rfl (pre:=[_,_]) (post:=[]) rfl) ?_
  refine zi ?_;refine ret0 rfl (zc2 (zj (zq1 (zd1 rfl (zd1 rfl (zl1 rfl rfl rfl (by first|exact zf _|exact ze _|exact bytC_clo _|(simp [cloL,clo,zf,ze,zm,zl,zh];done)|(simp [cloL,clo,opC,opL,zf,ze,zm,zl,zh];done)) ze1)))) (zj zy zj1))) ⟨?_,rfl⟩
  rfl
 | false =>
  have c2:=zk14 hty (hsz rfl)
  cases hf with
  | mk k t l hk ht hl2 =>
  unfold rdrS at halt
  dsimp only [p00] at halt ⊢
  refine zi1 Tryz.func159 rfl rfl ?_
  repeat' (first|(apply f_wo;first|(apply f_mv;refine zt (v:=.c _) ?_)|(apply f_as;refine zu (v:=.c _) ?_)|(apply f_bi;refine zj6 ?_)|(apply zi4;refine zh2 ?_)|refine n_al ?_)|(apply f_w;first|refine zo ?_|refine zc ?_)|refine za fun C=>?_|refine zd ?_)
  refine zn (by rfl) (fun hC=>by exfalso;simp only [decide_eq_true_iff] at hC;omega) fun hC=>?_
  repeat' (first|(apply f_wo;first|(apply f_gs;refine n_sk ?_)|(apply f_mv;first|(refine zs1 ?_ ?_<;>intro hG<;>(try cases hG))|refine zt (v:=.c _) ?_)|(apply f_as;refine zu (v:=.c _) ?_)|(apply f_fa;refine n_fa ?_)|(apply f_ld;first|refine zn1 ?_|refine zq2 ?_)|(apply f_ca;first|refine zy1 12 (halt) ?_|refine zu1 c2 ?_)|(apply f_bi;refine zj6 ?_)|(apply f_st;refine n_st ?_)|(apply zh4;first|refine zs2 ?_|refine n_neq_s ?_)|(apply f_pk;refine zr1 (v:=.c _) ?_)|refine n_al ?_|refine n_bo ?_|refine zh1 ?_)|(apply f_w;first|refine zo ?_|refine zc ?_)|refine za fun C=>?_|refine zd ?_|refine zk ?_)
  ·repeat' (first|(apply f_wo;first|(apply f_as;refine zu (v:=.c _) ?_)|(apply f_st;refine n_st ?_)|refine zh1 ?_)|(apply f_w;first|refine zo ?_|refine zc ?_)|refine za fun C=>?_|refine zd ?_|refine zq rfl ?_)
   refine ze2 (zb3 900 (i:=2) 208 3 rfl rfl (pre:=[_,_]) (post:=[]) rfl) ?_
   refine zi ?_;refine ret0 rfl (zc2 (zj (zq1 (zd1 rfl (zd1 rfl (zl1 rfl rfl rfl (by first|exact zf _|exact ze _|exact bytC_clo _|(simp [cloL,clo,zf,ze,zm,zl,zh];done)|(simp [cloL,clo,opC,opL,zf,ze,zm,zl,zh];done)) ze1)))) (zj zy zj1))) ⟨?_,rfl⟩
   have hP:(true&&!false&&(qa==s.size)&&(rexT (rexE k t l)).toList==s.toList)=false:=by clear halt c2;first|(simp_all;done)|(simp_all;(try intros);omega)
   rw [hP];rfl
  ·refine zn (by rfl) (fun hC=>?_) fun hC=>?_
   ·repeat' (first|(apply f_wo;first|(apply f_as;refine zu (v:=.c _) ?_)|(apply f_st;refine n_st ?_)|refine zh1 ?_)|(apply f_w;first|refine zo ?_|refine zc ?_)|refine za fun C=>?_|refine zd ?_)
    refine ze2 (zb3 900 (i:=2) 208 3 rfl rfl (pre:=[_,_]) (post:=[]) rfl) ?_
    refine zi ?_;refine ret0 rfl (zc2 (zj (zq1 (zd1 rfl (zd1 rfl (zl1 rfl rfl rfl (by first|exact zf _|exact ze _|exact bytC_clo _|(simp [cloL,clo,zf,ze,zm,zl,zh];done)|(simp [cloL,clo,opC,opL,zf,ze,zm,zl,zh];done)) ze1)))) (zj zy zj1))) ⟨?_,rfl⟩
    have hP:(true&&!false&&(qa==s.size)&&(rexT (rexE k t l)).toList==s.toList)=false:=by clear halt c2;first|(simp_all;done)|(simp_all;(try intros);omega)
    rw [hP];rfl
   ·repeat' (first|(apply f_wo;first|(apply f_as;refine zu (v:=.c _) ?_)|(apply f_ld;refine zq2 ?_)|(apply f_st;refine n_st ?_))|(apply f_w;first|refine zo ?_|refine zc ?_)|refine za fun C=>?_|refine zd ?_|refine zk ?_)
    refine zi ?_;refine ret0 rfl (zc2 (zj (zq1 (zd1 rfl (zd1 rfl (zl1 rfl rfl rfl (by first|exact zf _|exact ze _|exact bytC_clo _|(simp [cloL,clo,zf,ze,zm,zl,zh];done)|(simp [cloL,clo,opC,opL,zf,ze,zm,zl,zh];done)) ze1)))) (zj zy zj1))) ⟨?_,rfl⟩
    have hP:(true&&!false&&(qa==s.size)&&(rexT (rexE k t l)).toList==s.toList)=true:=by clear halt c2;first|(simp_all;done)|(simp_all;(try intros);omega)
    rw [hP];rfl
theorem zz2 {e:E}(h:e.Ty Tryz.prog 82):∃(x0:Int) (x1:Int),e=(E.agg [.int .i64 x0,.int .i64 x1])∧((Lit.int .i64 x0).wf=true)∧((Lit.int .i64 x1).wf=true)∧True:=by
 obtain⟨fs,rfl,q0⟩:=h.agg_ Tryz.underlying82
 change E.TyF _ _ [3,3] at q0
 obtain⟨e0,r0,rfl,h0,q1⟩:=q0.cons_
 obtain⟨e1,r1,rfl,h1,q2⟩:=q1.cons_
 obtain rfl:=q2.nil_
 obtain⟨x0,rfl,gx0⟩:=h0.int_ Tryz.underlying3
 obtain⟨x1,rfl,gx1⟩:=h1.int_ Tryz.underlying3
 exact⟨x0,x1,rfl,gx0,gx1,trivial⟩
set_option maxRecDepth 100000 in
set_option maxHeartbeats 1000000 in
theorem eqIns_all {e e':E}(ht:e.Ty Tryz.prog 82)(ht':e'.Ty Tryz.prog 82):Eq 191 e e':=by
 obtain⟨x0,x1,rfl,gx0,gx1,-⟩:=zz2 ht
 obtain⟨y0,y1,rfl,gy0,gy1,-⟩:=zz2 ht'
 intro hd w hr hr'
 simp only [E.d,E.dL,E.agg.injEq,List.cons.injEq,E.int.injEq,E.str.injEq,E.bool.injEq,E.lst.injEq,true_and,and_true] at hd
 obtain⟨rfl,rfl⟩:=hd
 change Calls _ _ #[.agg #[.int .i64 x0,.int .i64 x1],.agg #[.int .i64 x0,.int .i64 x1]] w _
 go_enter Tryz.func191,Tryz.ntmps191
 go_wp2
 go_ret
 exact⟨rfl,by0⟩
set_option maxRecDepth 100000 in
set_option maxHeartbeats 1000000 in
theorem eqInsS_all' (A B:Option Addr)(c c':Nat)(l m:List E)(h1:∀y∈l,y.Ty Tryz.prog 82)(h2:∀y∈m,y.Ty Tryz.prog 82):Eq 167 (.lst 2 82 A c l) (.lst 2 82 B c' m):=by
 intro hd w hr hr'
 rw [ze20] at hd
 have hs:=hr.sl
 have hs':=hr'.sl
 have hml:=zu21 hd
 have HD:=Lib.hid hd
 clear hd
 have hlen:=hs.len_le
 change Calls _ _ #[.slice A l.length c,.slice B m.length c'] w _
 obtain⟨N,HN⟩:∃N,Hid (m.length=N):=⟨_,rfl⟩
 have hN:N=l.length:=by have:=HN.out;omega
 subst hN
 rw [HN.out]
 clear hml
 go_enter Tryz.func167,Tryz.ntmps167
 go_wp2
 go_loopw [5] (fun i wr=>∃(k:Nat),k≤l.length∧i=.int .i64 k∧Below w.heap.size w wr) (fun i _=>l.length-(intOf i).toNat)
 case atStart=>exact⟨0,Nat.zero_le _,rfl,Below.refl _ _⟩
 case round =>
  obtain⟨k,hk,rfl,hb⟩:=hrel
  by_cases hlt:k<l.length
  ·have hltm:k<m.length:=by have:=HN.out;omega
   have hsb:=hs.below hb (Nat.le_refl _)
   have hsb':=hs'.below hb (Nat.le_refl _)
   have hdk:=d_at HD.out hlt hltm
   obtain⟨b,o,rfl,_,hc⟩:=hsb.at_ hlt
   obtain⟨b',o',rfl,_,hd⟩:=hsb'.at_ hltm
   have hin:=(hr.el (List.getElem_mem hlt)).below hb (Nat.le_refl _)
   have hin':=(hr'.el (List.getElem_mem hltm)).below hb (Nat.le_refl _)
   have H:=eqIns_all (h1 _ (List.getElem_mem hlt)) (h2 _ (List.getElem_mem hltm)) hdk
   obtain⟨x0,x1,ex,gx0,gx1,-⟩:=zz2 (h1 _ (List.getElem_mem hlt))
   obtain⟨y0,y1,ey,gy0,gy1,-⟩:=zz2 (h2 _ (List.getElem_mem hltm))
   rw [ex] at hc hin
   rw [ey] at hd hin'
   rw [ex,ey] at H
   clear ex ey hdk
   have c0:=hc 0 _ rfl;have c1:=hc 1 _ rfl
   have d0:=hd 0 _ rfl;have d1:=hd 1 _ rfl
   rw [Nat.add_zero] at c0 d0
   clear hc hd
   have hzb:=hb.size
   have HH:=Lib.hid H
   clear H
   go_wp2
   go_region_held3 (fun w'=>w'.cell? ⟨b,o+k*2,none⟩=some (.int .i64 x0)∧w'.cell? ⟨b,o+k*2+1,none⟩=some (.int .i64 x1)∧w'.cell? ⟨b',o'+k*2,none⟩=some (.int .i64 y0)∧w'.cell? ⟨b',o'+k*2+1,none⟩=some (.int .i64 y1))
    (first|exact⟨c0,c1,d0,d1⟩|skip)
    ((go_at_call 191;refine (HH.out _ by2 by2).mono ?_;rintro e w1 ⟨rfl,hb1⟩;have c0:=zc1 hb1 c0 by1;have c1:=zc1 hb1 c1 by1;have d0:=zc1 hb1 d0 by1;have d1:=zc1 hb1 d1 by1))
   go_wp2
   go_roundw
   case rel=>exact⟨k+1,by omega,by go_num,by exact by0⟩
   case measure=>simp [intOf];omega
  ·go_wp2
   go_ret
   exact⟨rfl,hb⟩
theorem zl21 {e e':E}(ht:e.Ty Tryz.prog 77)(ht':e'.Ty Tryz.prog 77):Eq 167 e e':=by
 obtain⟨A,c,l,rfl,h1,_⟩:=ht.lst_ Tryz.underlying77 (k:=2) (by kernel_rfl)
 obtain⟨B,c',m,rfl,h2,_⟩:=ht'.lst_ Tryz.underlying77 (k:=2) (by kernel_rfl)
 exact eqInsS_all' A B c c' l m h1 h2
set_option maxRecDepth 100000 in
set_option maxHeartbeats 1000000 in
theorem markInsS_all' (A:Option Addr)(c:Nat)(l:List E)(h1:∀y∈l,y.Ty Tryz.prog 82)(h2:∀y∈l,y.enc.length=2):Mar 118 (.lst 2 82 A c l):=by
 intro lo hi k0 w ho hnd hhi hk0 hk1
 have HCN:Hid ((E.lst 2 82 A c l).cnt=E.cntcL l):=rfl
 rw [HCN.out] at hk1
 have HND:=Lib.hid hnd
 clear hnd
 have hlen:=ho.re.sl.len_le
 have how0:=ho
 rw [←ze6 l k0] at how0
 clear ho
 change Calls _ _ #[.slice A l.length c,.int .i64 k0] w _
 rw [HCN.out]
 change Calls _ _ _ w fun r w'=>r=.returned (.int .i64 (k0+(E.cntcL l:Nat)))∧(E.lst 2 82 A c (E.mkcL l k0)).Ho w' lo hi∧Fr (E.lst 2 82 A c l).fp w w'
 go_enter Tryz.func118,Tryz.ntmps118
 go_wp2
 go_loopw [1,5] (fun v i wr=>∃(k:Nat) (q:Int),k≤l.length∧i=.int .i64 k∧v=.int .i64 q∧Hid (q=k0+(E.cntcL (l.take k):Nat))∧Fr (E.lst 2 82 A c l).fp w wr∧Hid ((E.lst 2 82 A c (mixM l k0 k)).Ho wr lo hi)) (fun _ i _=>l.length-(intOf i).toNat)
 case atStart=>exact⟨0,k0,Nat.zero_le _,rfl,rfl,(by show _=_;simp [E.cntcL]),Fr.refl _ _,how0⟩
 case round =>
  obtain⟨k,q,hk,rfl,rfl,HQ,hF0,HOW⟩:=hrel
  have hzk:=hF0.size
  by_cases hlt:k<l.length
  ·have HT:=Lib.hid (E.cntcL_take l k hlt)
   have hq0:0≤q:=by have:=HQ.out;omega
   have hml:k<(mixM l k0 k).length:=by rw [zr6];exact hlt
   have how:=HOW.out
   obtain⟨g,rfl,hg1,hg2,hg3⟩:=how.head (by omega)
   obtain⟨y0,y1,ex,gy0,gy1,-⟩:=zz2 (h1 _ (List.getElem_mem hlt))
   have HCX:Hid ((E.agg [.int .i64 y0,.int .i64 y1]).cntc=(1+(1+0))):=rfl
   have hq1:q+(((1+(1+0)):Nat):Int)≤1152921504606846976:=by have e1:=HQ.out;have e2:=HT.out;have e3:=E.cntcL_le l (k+1);rw [ex,HCX.out] at e2;omega
   have e0:mixM l k0 k=(mixM l k0 k).set k (E.agg [.int .i64 y0,.int .i64 y1]):=by rw [←ex,←zn5 l k0 k hlt];exact (List.set_getElem_self _).symm
   have HN2:=Lib.hid (fun (z:E) (hz:z.fp=(E.agg [.int .i64 y0,.int .i64 y1]).fp)=>(show (E.lst 2 82 (some ⟨g,0,none⟩) c ((mixM l k0 k).set k z)).fp.Nodup by have hh:=HND.out;have h3:E.fpL ((mixM l k0 k).set k z)=E.fpL l:=(E.fpL_set hml (by rw [hz,←ex,zn5 l k0 k hlt])).trans (zf10 l k0 k);simp only [E.fp] at hh ⊢;rw [h3];exact hh))
   have HSB:=Lib.hid (fun (b:Nat) (hb:b∈(E.agg [.int .i64 y0,.int .i64 y1]).fp)=>(show b∈(E.lst 2 82 (some ⟨g,0,none⟩) c l).fp by simp only [E.fp];exact List.mem_append_right _ (E.mem_fpL.2 ⟨l[k],List.getElem_mem hlt,by rw [ex];exact hb⟩)))
   have hgm:g∈(E.lst 2 82 (some ⟨g,0,none⟩) c l).fp:=by simp [E.fp]
   have HGM:=Lib.hid hgm
   clear hgm
   rw [e0] at how
   clear e0
   obtain⟨ms,HMS⟩:∃ms,Hid (mixM l k0 k=ms):=⟨_,rfl⟩
   rw [HMS.out] at how hml HN2
   have HEX:=Lib.hid ex
   clear ex
   have HML:=Lib.hid hml
   clear hml
   have H0:=Lib.hid how
   clear how
   have c0_0:wr.cell? ⟨g,k*2,none⟩=some (.int .i64 y0):=H0.out.cellx (j:=0) (u:=.int .i64 y0) (by simpa using HML.out) (zy4 HML.out _) rfl
   have c0_1:wr.cell? ⟨g,k*2+1,none⟩=some (.int .i64 y1):=H0.out.cellx (j:=1) (u:=.int .i64 y1) (by simpa using HML.out) (zy4 HML.out _) rfl
   have fz0:=H0.out.frzx
   go_wp2
   go_roundw
   case rel =>
    have H1:Hid ((E.lst 2 82 (some ⟨g,0,none⟩) c (ms.set k (E.agg [(E.int .i64 (q)),(E.int .i64 y1)]))).Ho (wr.setCell ⟨g,k*2,none⟩ (.int .i64 (q))) lo hi):=H0.out.store (HN2.out _ (by simp only [E.fp,E.fpL,E.mkcL_fp])) HML.out (E.agg [(E.int .i64 (q)),(E.int .i64 y1)]) 0 (.int .i64 (q)) (by omega) rfl (fun _ h=>h)
    have H2:Hid ((E.lst 2 82 (some ⟨g,0,none⟩) c (ms.set k (E.agg [(E.int .i64 (q)),(E.int .i64 (q+1))]))).Ho ((wr.setCell ⟨g,k*2,none⟩ (.int .i64 (q))).setCell ⟨g,k*2+1,none⟩ (.int .i64 (q+1))) lo hi):=H1.out.store (HN2.out _ (by simp only [E.fp,E.fpL,E.mkcL_fp])) HML.out (E.agg [(E.int .i64 (q)),(E.int .i64 (q+1))]) 1 (.int .i64 (q+1)) (by omega) rfl (fun _ h=>h)
    have FF:∀t0 t1:Int,(q)=t0→(q+1)=t1→(E.agg [(E.int .i64 (q)),(E.int .i64 (q+1))])=(E.agg [(E.int .i64 t0),(E.int .i64 t1)]):=by
     intro t0 t1 ht0 ht1
     subst ht0
     subst ht1
     rfl
    have EX:(E.agg [(E.int .i64 (q)),(E.int .i64 (q+1))])=(E.agg [.int .i64 y0,.int .i64 y1]).mkc q:=FF _ _ (by first|rfl|omega|(show _=_;simp only [E.cnt,E.cntL,E.cntc,E.cntcL,reduceCtorEq,if_false,if_true,ite_false];omega)) (by first|rfl|omega|(show _=_;simp only [E.cnt,E.cntL,E.cntc,E.cntcL,reduceCtorEq,if_false,if_true,ite_false];omega))
    exact⟨k+1,_,by omega,by go_num,rfl,(by show _=_;have e1:=HQ.out;have e2:=HT.out;rw [HEX.out,HCX.out] at e2;omega),((hF0.set HGM.out (.int .i64 (q))).set HGM.out (.int .i64 (q+1))),(by show E.Ho _ _ _ _;rw [←zf6 l k0 k hlt,HEX.out,←HQ.out,←EX,HMS.out];exact H2.out)⟩
   case measure=>simp [intOf];omega
  ·have hk':k=l.length:=by omega
   subst hk'
   go_wp2
   go_ret
   have e1:=HQ.out
   rw [List.take_length] at e1
   have h:=HOW.out
   rw [zl7] at h
   exact⟨ri e1,h,hF0⟩
set_option maxRecDepth 100000 in
set_option maxHeartbeats 1000000 in
theorem heldInsS_all' (A:Option Addr)(c:Nat)(l:List E)(h1:∀y∈l,y.Ty Tryz.prog 82)(h2:∀y∈l,y.enc.length=2):Hel 156 (.lst 2 82 A c l):=by
 intro k0 w hr h0 hk1
 have HCN:Hid ((E.lst 2 82 A c l).cnt=E.cntcL l):=rfl
 rw [HCN.out] at hk1
 change (E.lst 2 82 A c (E.mkcL l k0)).In w at hr
 have hs:=hr.sl
 have hlen:=hs.len_le
 rw [E.mkcL_len] at hlen
 change Calls _ _ #[.slice A l.length c,.int .i64 k0] w _
 rw [HCN.out]
 change Calls _ _ _ w fun r w'=>r=.returned (.int .i64 (k0+(E.cntcL l:Nat)))∧Below w.heap.size w w'
 go_enter Tryz.func156,Tryz.ntmps156
 go_wp2
 go_loopw [1,5] (fun v i wr=>∃(k:Nat) (q:Int),k≤l.length∧i=.int .i64 k∧v=.int .i64 q∧Hid (q=k0+(E.cntcL (l.take k):Nat))∧Below w.heap.size w wr) (fun _ i _=>l.length-(intOf i).toNat)
 case atStart=>exact⟨0,k0,Nat.zero_le _,rfl,rfl,(by show _=_;simp [E.cntcL]),Below.refl _ _⟩
 case round =>
  obtain⟨k,q,hk,rfl,rfl,HQ,hb⟩:=hrel
  have hzb:=hb.size
  by_cases hlt:k<l.length
  ·have HT:=Lib.hid (E.cntcL_take l k hlt)
   have hq0:0≤q:=by have:=HQ.out;omega
   have hlm:k<(E.mkcL l k0).length:=by rw [E.mkcL_len];exact hlt
   obtain⟨y0,y1,ex,gy0,gy1,-⟩:=zz2 (h1 _ (List.getElem_mem hlt))
   have HCX:Hid ((E.agg [.int .i64 y0,.int .i64 y1]).cntc=(1+(1+0))):=rfl
   have hq1:q+(((1+(1+0)):Nat):Int)≤1152921504606846976:=by have e1:=HQ.out;have e2:=HT.out;have e3:=E.cntcL_le l (k+1);rw [ex,HCX.out] at e2;omega
   have FF:∀t0 t1:Int,(q)=t0→(q+1)=t1→(E.agg [(E.int .i64 (q)),(E.int .i64 (q+1))])=(E.agg [(E.int .i64 t0),(E.int .i64 t1)]):=by
    intro t0 t1 ht0 ht1
    subst ht0
    subst ht1
    rfl
   have EX:(E.agg [(E.int .i64 (q)),(E.int .i64 (q+1))])=(E.agg [.int .i64 y0,.int .i64 y1]).mkc q:=FF _ _ (by first|rfl|omega|(show _=_;simp only [E.cnt,E.cntL,E.cntc,E.cntcL,reduceCtorEq,if_false,if_true,ite_false];omega)) (by first|rfl|omega|(show _=_;simp only [E.cnt,E.cntL,E.cntc,E.cntcL,reduceCtorEq,if_false,if_true,ite_false];omega))
   have hs':=hs.below hb (Nat.le_refl _)
   have hin:=(hr.el (List.getElem_mem hlm)).below hb (Nat.le_refl _)
   obtain⟨b,o,rfl,hbl,hc⟩:=hs'.at_ hlm
   rw [E.mkcL_at l k0 k hlt,ex,←HQ.out,←EX] at hc hin
   clear EX FF
   have HEX:=Lib.hid ex
   clear ex hlm hs'
   have c0_0:wr.cell? ⟨b,o+k*2,none⟩=some (.int .i64 (q)):=by have h:=hc 0 _ rfl;exact h
   have c0_1:wr.cell? ⟨b,o+k*2+1,none⟩=some (.int .i64 (q+1)):=by have h:=hc 1 _ rfl;exact h
   clear hc
   clear hin
   go_wp2_with fail
   go_roundw
   case rel=>exact⟨k+1,_,by omega,by go_num,rfl,(by show _=_;have e1:=HQ.out;have e2:=HT.out;rw [HEX.out,HCX.out] at e2;omega),by exact by0⟩
   case measure=>simp [intOf];omega
  ·have hk':k=l.length:=by omega
   subst hk'
   go_wp2
   go_ret
   have e1:=HQ.out
   rw [List.take_length] at e1
   exact⟨ri e1,hb⟩
theorem zg16 {e:E}(ht:e.Ty Tryz.prog 77):Mar 118 e:=by
 obtain⟨A,c,l,rfl,h1,h2⟩:=ht.lst_ Tryz.underlying77 (k:=2) (by kernel_rfl)
 exact markInsS_all' A c l h1 h2
theorem zh16 {e:E}(ht:e.Ty Tryz.prog 77):Hel 156 e:=by
 obtain⟨A,c,l,rfl,h1,h2⟩:=ht.lst_ Tryz.underlying77 (k:=2) (by kernel_rfl)
 exact heldInsS_all' A c l h1 h2
end Go.Proofs.YtghljnfbbaklnaaGreat
