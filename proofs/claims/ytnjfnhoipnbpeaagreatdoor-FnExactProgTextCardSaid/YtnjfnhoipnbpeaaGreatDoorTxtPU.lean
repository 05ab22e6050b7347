/- The program's ParseRex: by the abstract machine. -/
import Derived.Test.YtnjfnhoipnbpeaaGreatDoorTxtPT
namespace Go.Proofs.YtnjfnhoipnbpeaaGreatDoor
open Go.RowKit
set_option maxRecDepth 100000
theorem altI_c {s:ByteArray}(hs:s.size≤1048576)(f:Nat):∀p:PS,p.a≤s.size→p.d≤p.a→s.size+1≤p.a+f→Ctr Tryz.prog 132 [.c (.pt 0 0)] [rdrI s p] (.ag (owE (altI s f p).1)) [rdrI s (altI s f p).2]:=by
 induction f with
 | zero=>intro p h1 h2 h3;omega
 | succ f ih =>
  intro p h1 h2 h3
  have hat:∀r:PS,r.a<s.size→p.a≤r.a→Good s r (atomI s (altI s f) r) 1 1 0:=fun r hr hra=>zs12 hs hr (zy10 hs f _ (by show r.a+1≤_;omega) (by show s.size+1≤r.a+1+f;omega))
  refine alt_c hs h1 h2 (fun q hq hqd hqa=>zp15 hq fun r hr hrd hra=>zt8 (hat r hr (by omega))) fun q hq hqd hqa=>?_
  refine cat_c hs hq (by omega) (fun r hr hrd hra=>zt8 (hat r hr (by omega))) fun r hr hrd hra=>?_
  refine item_c hs (hat r hr (by omega)) ?_
  exact atom_c hs hr (by omega) (zy10 hs f _ (by show r.a+1≤_;omega) (by show s.size+1≤r.a+1+f;omega)) (ih _ (by show r.a+1≤_;omega) (by show r.d≤r.a+1;omega) (by show s.size+1≤r.a+1+f;omega))
theorem zx8 {s:ByteArray}(hs:s.size≤1048576):Fine (readI s).1∧(readI s).2.a≤s.size∧(readI s).1.sz≤2*s.size+1:=by
 obtain⟨g1,g2,g3,g4,g5⟩:=zy10 hs (s.size+8) p00 (Nat.zero_le _) (by show s.size+1≤0+(s.size+8);omega)
 have e0:p00.a=0:=rfl
 exact⟨g1,g3,by unfold readI;omega⟩
set_option maxHeartbeats 4000000 in
theorem zc12 {s:ByteArray}(hs:s.size≤1048576):Ctr Tryz.prog 124 [.c (.v (.string s))] [] (.tu [.ag (owE (rexR s)),.c (.v (.bool (parI s)))]) []:=by
 have halt:=altI_c hs (s.size+8) p00 (Nat.zero_le _) (Nat.le_refl _) (by show s.size+1≤0+(s.size+8);omega)
 obtain⟨hf,hle,hsz⟩:=zx8 hs
 unfold rexR parI
 unfold readI at hf hle hsz ⊢
 obtain⟨⟨e,q⟩,hq⟩:∃r,altI s (s.size+8) p00=r:=⟨_,rfl⟩
 rw [hq] at halt hf hle hsz ⊢
 dsimp only at halt hf hle hsz ⊢
 have hty:=hf.ty.1
 have c1:=zb11 hty (by omega)
 have c2:=zc14 hty (by omega)
 cases hf with
 | mk k t l hk ht hl2 =>
 obtain⟨qa,qd,qb⟩:=q
 unfold rdrI at halt
 dsimp only [p00] at halt hle ⊢
 refine ze1 Tryz.func124 rfl rfl ?_
 repeat' (first|(apply f_wo;first|(apply f_gs;refine n_sk ?_)|(apply f_mv;first|(refine zx1 ?_ ?_<;>intro hG<;>(try cases hG))|refine zv (v:=.c _) ?_)|(apply f_as;refine zq (v:=.c _) ?_)|(apply f_fa;refine n_fa ?_)|(apply f_ld;first|refine zn1 ?_|refine zs2 ?_)|(apply f_ca;first|refine zh2 8 (halt) ?_|refine zk1 c1 ?_|refine zk1 c2 ?_)|(apply f_bi;refine za4 ?_)|(apply f_st;refine n_st ?_)|(apply zn2;first|refine zm1 ?_|refine zf3 ?_)|(apply f_no;refine zu2 ?_)|(apply f_pk;refine zw1 (v:=.c _) ?_)|refine n_al ?_|refine n_bo ?_|refine zz1 ?_)|(apply f_w;first|refine zj ?_|refine zb ?_)|refine za fun C=>?_|refine zd ?_)
 ·repeat' (first|(apply f_wo;first|(apply f_as;refine zq (v:=.c _) ?_)|(apply f_st;refine n_st ?_)|refine zz1 ?_)|(apply f_w;first|refine zj ?_|refine zb ?_)|refine za fun C=>?_|refine zd ?_|refine za1 rfl ?_)
  refine zk3 (zf5 900 (i:=2) 140 3 rfl rfl (pre:=[_,_]) (post:=[]) rfl) ?_
  refine zh ?_;refine ret0 rfl (zx6 (zz2 (zt2 (zg2 rfl (zg2 rfl (zp2 rfl rfl rfl (by first|exact zo _|exact zk _|exact bytC_clo _|(simp [cloL,clo,zo,zk,zd1,zc1,zt];done)|(simp [cloL,clo,opC,opL,zo,zk,zd1,zc1,zt];done)) zf2)))) (zz2 zg1 zv4))) ⟨?_,rfl⟩
  have hP:(!true&&(qa==s.size)&&rexOkI (rexE k t l)&&(rexT (rexE k t l)).toList==s.toList)=false:=by clear halt c1 c2;first|(simp_all;done)|(simp_all;(try intros);omega)
  rw [hP];rfl
 ·repeat' (first|(apply f_wo;first|(apply f_as;refine zq (v:=.c _) ?_)|(apply f_st;refine n_st ?_)|refine zz1 ?_)|(apply f_w;first|refine zj ?_|refine zb ?_)|refine za fun C=>?_|refine zd ?_|refine za1 rfl ?_)
  refine zk3 (zf5 900 (i:=2) 140 3 rfl rfl (pre:=[_,_]) (post:=[]) rfl) ?_
  refine zh ?_;refine ret0 rfl (zx6 (zz2 (zt2 (zg2 rfl (zg2 rfl (zp2 rfl rfl rfl (by first|exact zo _|exact zk _|exact bytC_clo _|(simp [cloL,clo,zo,zk,zd1,zc1,zt];done)|(simp [cloL,clo,opC,opL,zo,zk,zd1,zc1,zt];done)) zf2)))) (zz2 zg1 zv4))) ⟨?_,rfl⟩
  have hP:(!false&&(qa==s.size)&&rexOkI (rexE k t l)&&(rexT (rexE k t l)).toList==s.toList)=false:=by clear halt c1 c2;first|(simp_all;done)|(simp_all;(try intros);omega)
  rw [hP];rfl
 ·repeat' (first|(apply f_wo;first|(apply f_as;refine zq (v:=.c _) ?_)|(apply f_st;refine n_st ?_)|refine zz1 ?_)|(apply f_w;first|refine zj ?_|refine zb ?_)|refine za fun C=>?_|refine zd ?_|refine za1 rfl ?_)
  refine zk3 (zf5 900 (i:=2) 140 3 rfl rfl (pre:=[_,_]) (post:=[]) rfl) ?_
  refine zh ?_;refine ret0 rfl (zx6 (zz2 (zt2 (zg2 rfl (zg2 rfl (zp2 rfl rfl rfl (by first|exact zo _|exact zk _|exact bytC_clo _|(simp [cloL,clo,zo,zk,zd1,zc1,zt];done)|(simp [cloL,clo,opC,opL,zo,zk,zd1,zc1,zt];done)) zf2)))) (zz2 zg1 zv4))) ⟨?_,rfl⟩
  have hP:(!false&&(qa==s.size)&&rexOkI (rexE k t l)&&(rexT (rexE k t l)).toList==s.toList)=false:=by clear halt c1 c2;first|(simp_all;done)|(simp_all;(try intros);omega)
  rw [hP];rfl
 ·refine zi (by rfl) (fun hC=>?_) fun hC=>?_
  ·repeat' (first|(apply f_wo;first|(apply f_as;refine zq (v:=.c _) ?_)|(apply f_st;refine n_st ?_)|refine zz1 ?_)|(apply f_w;first|refine zj ?_|refine zb ?_)|refine za fun C=>?_|refine zd ?_)
   refine zk3 (zf5 900 (i:=2) 140 3 rfl rfl (pre:=[_,_]) (post:=[]) rfl) ?_
   refine zh ?_;refine ret0 rfl (zx6 (zz2 (zt2 (zg2 rfl (zg2 rfl (zp2 rfl rfl rfl (by first|exact zo _|exact zk _|exact bytC_clo _|(simp [cloL,clo,zo,zk,zd1,zc1,zt];done)|(simp [cloL,clo,opC,opL,zo,zk,zd1,zc1,zt];done)) zf2)))) (zz2 zg1 zv4))) ⟨?_,rfl⟩
   have hP:(!false&&(qa==s.size)&&rexOkI (rexE k t l)&&(rexT (rexE k t l)).toList==s.toList)=false:=by clear halt c1 c2;first|(simp_all;done)|(simp_all;(try intros);omega)
   rw [hP];rfl
  ·repeat' (first|(apply f_wo;first|(apply f_as;refine zq (v:=.c _) ?_)|(apply f_ld;refine zs2 ?_)|(apply f_st;refine n_st ?_))|(apply f_w;first|refine zj ?_|refine zb ?_)|refine za fun C=>?_|refine zd ?_|refine zg ?_)
   refine zh ?_;refine ret0 rfl (zx6 (zz2 (zt2 (zg2 rfl (zg2 rfl (zp2 rfl rfl rfl (by first|exact zo _|exact zk _|exact bytC_clo _|(simp [cloL,clo,zo,zk,zd1,zc1,zt];done)|(simp [cloL,clo,opC,opL,zo,zk,zd1,zc1,zt];done)) zf2)))) (zz2 zg1 zv4))) ⟨?_,rfl⟩
   have hP:(!false&&(qa==s.size)&&rexOkI (rexE k t l)&&(rexT (rexE k t l)).toList==s.toList)=true:=by clear halt c1 c2;first|(simp_all;done)|(simp_all;(try intros);omega)
   rw [hP];rfl
set_option maxHeartbeats 8000000 in
theorem l3Alt_c {s:ByteArray}(hs:s.size≤1048576){cat:PS→E×PS}{p0:PS}(hp:Pre s p0)
 (hg:∀q,Pre s q→p0.a≤q.a→GoodS s q (cat q))
 (hi:∀q,Pre s q→p0.a≤q.a→Ctr Tryz.prog 137 [.c (.pt 0 0)] [rdrS s q] (.ag (owE (cat q).1)) [rdrS s (cat q).2]) :
 Ctr Tryz.prog 130 [.c (.pt 0 0)] [rdrS s p0] (.ag (owE (altC s cat p0).1)) [rdrS s (altC s cat p0).2]:=by
 have hic0:=hi p0 hp (Nat.le_refl _)
 have hg0:=hg p0 hp (Nat.le_refl _)
 have hL0:=GoodLS.one hg0
 have hr:altC s cat p0=(oneOr 5 (altLoopS s cat (s.size+1) [(cat p0).1] (cat p0).2).1,(altLoopS s cat (s.size+1) [(cat p0).1] (cat p0).2).2):=rfl
 rw [hr]
 clear hr
 obtain⟨⟨e,q0⟩,hq0⟩:∃r,cat p0=r:=⟨_,rfl⟩
 rw [hq0] at hic0 hg0 hL0 ⊢
 have hfi:Fine e:=hg0.fine
 dsimp only at hic0 hL0 ⊢
 cases hfi with
 | mk k t l hk ht hl2 =>
 refine ze1 Tryz.func130 rfl rfl ?_
 repeat' (first|(apply f_wo;first|(apply f_mv;refine zv (v:=.c _) ?_)|(apply f_as;refine zq (v:=.c _) ?_)|(apply f_ca;refine zh2 0 (hic0) ?_)|refine n_al ?_|refine n_bs ?_)|(apply f_w;first|refine zj ?_|refine zb ?_)|refine za fun C=>?_|refine zd ?_|refine ze ?_)
 refine zv1 (fun q:List E×PS=>⟨tmsF [(0,.c (.pt 0 0)),(2,.c (.pt 2 0)),(3,.c (.sl 9 q.1.length))],hpsF [(0,0,⟨0,0,0,true,rdrS s q.2⟩),(2,2,⟨140,0,0,true,[.v (.int .i64 0),.v (.string ByteArray.empty),.v (.slice none 0 0)]⟩),(9,9,⟨140,3,q.1.length,false,owL q.1⟩)],1,[0,2,9],22⟩)
  (fun N q=>GoodLS s p0 q.1 q.2∧s.size+1≤q.2.a+N∧altLoopS s cat N q.1 q.2=altLoopS s cat (s.size+1) [rexE k t l] q0) (s.size+1) ([rexE k t l],q0) ⟨hL0,by dsimp only;omega,rfl⟩ ?_ ?_
 ·refine (zk8 (i:=6) (j:=600) rfl rfl rfl (pre:=[_,_]) (post:=[]) rfl).trans ?_
  (refine zi6 (fun j=>if j=9 then 6 else j) _ _ rfl rfl ?_ ?_<;>(repeat' (first|exact TmOk.nil|exact RwOk.nil|refine TmOk.cons ?_ ?_|refine RwOk.cons ?_ ?_|rfl|(refine rnV_id' rfl ?_;exact byc)|(refine zp1 ?_;first|rfl|omega|(rw [zw (by omega) (by omega)];omega))|(refine zb1 rfl ?_;exact byc)|exact zc2 rfl rfl|(refine zq1 (by rfl) (by rfl) ?_ ?_<;>exact byc)|(refine rw_rn' rfl rfl ?_;simp;done))))
 rintro N ⟨L,q⟩ ⟨hgl,hN,htot⟩
 dsimp only at hgl hN htot ⊢
 have hpre:=hgl.pre hp
 have hbar:=ze11 hs (c:=124) (by omega) (p:=q)
 obtain⟨a,d,b⟩:=q
 have hlen:=hgl.len.1
 have hale:a≤s.size:=hgl.le
 dsimp only at hlen hN
 cases hgo:isB s 124 ⟨a,d,b⟩ with
 | true =>
  obtain⟨hb,hlt,hv⟩:=zm9 hgo
  dsimp only at hb hlt hv
  subst hb
  rw [zf7 hgo,hgo] at hbar
  obtain⟨M,rfl⟩:∃M,N=M+1:=⟨N-1,by omega⟩
  have hpre2:Pre s ⟨a+1,d,false⟩:=⟨by show a+1≤_;omega,hpre.2.1,hpre.2.2⟩
  have hge:p0.a≤a:=hgl.ge
  have hic:=hi ⟨a+1,d,false⟩ hpre2 (by show p0.a≤a+1;omega)
  have hgd:=hg ⟨a+1,d,false⟩ hpre2 (by show p0.a≤a+1;omega)
  have hst:altLoopS s cat (M+1) L ⟨a,d,false⟩=altLoopS s cat M (L++[(cat ⟨a+1,d,false⟩).1]) (cat ⟨a+1,d,false⟩).2:=by
   show (if isB s 124 ⟨a,d,false⟩ then _ else _)=_
   rw [if_pos hgo];rfl
  rw [hst] at htot
  clear hst hi hg hic0
  have hge2:a+1≤(cat ⟨a+1,d,false⟩).2.a:=hgd.ge
  have hgl2:=hgl.step rfl (r:=cat ⟨a+1,d,false⟩) ⟨⟨hgd.fine,by show a≤_;omega,hgd.le,hgd.dg,hgd.dl,hgd.nb⟩,fun _=>by show a<_;omega⟩
  obtain⟨⟨e2,q2⟩,hq2⟩:∃r,cat ⟨a+1,d,false⟩=r:=⟨_,rfl⟩
  rw [hq2] at hic htot hgd hgl2 hge2
  dsimp only at hic htot hgd hgl2 hge2
  have hfi2:Fine e2:=hgd.fine
  cases hfi2 with
  | mk k' t' l' hk' ht' hl2' =>
  unfold rdrS at hbar hic ⊢
  dsimp only [PS.go] at hbar hic ⊢
  repeat' (first|(apply f_wo;first|(apply f_mv;refine zv (v:=.c _) ?_)|(apply f_as;refine zq (v:=.c _) ?_)|(apply f_ca;first|refine zh2 0 (hbar) ?_|refine zh2 0 (hic) ?_)|(apply f_bi;refine zj17 ?_)|refine n_bs ?_)|(apply f_w;first|refine zj ?_|refine zb ?_)|refine za fun C=>?_|refine zd ?_|refine ze ?_|refine zg ?_|refine za1 rfl ?_)
  refine⟨M,(L++[rexE k' t' l'],q2),by omega,⟨hgl2,by dsimp only;omega,htot⟩,?_⟩
  dsimp only
  rw [List.length_append,List.length_singleton]
  refine (zk8 (i:=13) (j:=1200) rfl rfl rfl (pre:=owL L++[.v (.int .i64 k'),.v (.string t')]) (post:=[]) (by rw [List.append_assoc];rfl)).trans ?_
  (refine zi6 (fun j=>if j=9 then 13 else j) _ _ rfl rfl ?_ ?_<;>(repeat' (first|exact TmOk.nil|exact RwOk.nil|refine TmOk.cons ?_ ?_|refine RwOk.cons ?_ ?_|rfl|(refine rnV_id' rfl ?_;exact byc)|(refine zp1 ?_;first|rfl|omega|(rw [zw (by omega) (by omega)];omega))|(refine zb1 rfl ?_;exact byc)|exact zc2 rfl rfl|(refine zq1 (by rfl) (by rfl) ?_ ?_<;>exact byc)|(refine rw_rn' rfl rfl ?_;simp;done))))
  exact zh17 (r:=⟨140,3,L.length+1,false,(owL L++[.v (.int .i64 k'),.v (.string t')])++[.ow 140 l'.length 3 (owL l')]⟩) rfl (by rw [zh6,List.append_assoc];rfl) (by first|rfl|(simp [cloV,cloL,clo,zc1,zk,zd1,zo,zt];done))
 | false =>
  rw [zw17 hgo] at htot
  rw [←htot]
  rw [zg11 hgo,hgo] at hbar
  have hfine:=hgl.fine
  have hne:=hgl.ne
  clear htot hi hg hic0 hL0 hgl hpre hg0
  unfold rdrS at hbar ⊢
  dsimp only at hbar ⊢
  match L,hfine,hne with
  | [],_,h0=>exact absurd h0 (by simp)
  | [x],hf,_ =>
   have hx:=hf x (List.mem_singleton.2 rfl)
   cases hx with
   | mk k' t' l' hk' ht' hl2' =>
   repeat' (first|(apply f_wo;first|(apply f_mv;refine zv (v:=.c _) ?_)|(apply f_ca;refine zh2 0 (hbar) ?_))|(apply f_w;first|refine zj ?_|refine zb ?_)|refine za fun C=>?_|refine zd ?_)
   refine zf1 rfl ?_
   refine zk3 (g_rev 800 (i:=9) rfl rfl (pre:=[.v (.int .i64 k'),.v (.string t')]) (post:=[]) rfl) ?_
   repeat' (first|(apply f_wo;first|(apply f_mv;refine zv (v:=.c _) ?_)|(apply f_ld;refine zs2 ?_)|(apply f_bi;refine zj6 ?_)|(apply f_st;refine n_st ?_)|(apply f_ia;refine zk17 ?_)|(apply zr1;refine zm ?_))|(apply f_w;first|refine zj ?_|refine zb ?_)|refine za fun C=>?_|refine zd ?_|refine zu ?_|refine za1 rfl ?_)
   refine zh ?_;refine ret1 rfl (zt2 (zg2 rfl (zg2 rfl (zp2 rfl rfl rfl (by first|exact zo _|exact zk _|exact bytC_clo _|(simp [cloL,clo,zo,zk,zd1,zc1,zt];done)|(simp [cloL,clo,opC,opL,zo,zk,zd1,zc1,zt];done)) zf2)))) rfl (by first|rfl|(simp [cloL,clo,zo,zk,zd1,zc1,zt];done)) rfl ⟨?_,?_⟩<;>rfl
  | x :: y :: r,hf,_ =>
   have hlen2:(x :: y :: r).length=r.length+2:=rfl
   repeat' (first|(apply f_wo;first|(apply f_mv;refine zv (v:=.c _) ?_)|(apply f_ca;refine zh2 0 (hbar) ?_)|(apply f_bi;refine zj6 ?_)|(apply f_st;refine n_st ?_)|(apply zr1;refine zm ?_)|refine zz1 ?_)|(apply f_w;first|refine zj ?_|refine zb ?_)|refine za fun C=>?_|refine zd ?_|refine zg ?_|refine zu ?_|refine zf1 rfl ?_)
   refine zh ?_;refine ret1 rfl (zt2 (zg2 rfl (zg2 rfl (zp2 rfl rfl rfl (by first|exact zo _|exact zk _|exact bytC_clo _|(simp [cloL,clo,zo,zk,zd1,zc1,zt];done)|(simp [cloL,clo,opC,opL,zo,zk,zd1,zc1,zt];done)) zf2)))) rfl (by first|rfl|(simp [cloL,clo,zo,zk,zd1,zc1,zt];done)) rfl ⟨?_,?_⟩<;>rfl
theorem altS_c {s:ByteArray}(hs:s.size≤1048576)(f:Nat):∀p:PS,Pre s p→s.size+1≤p.a+f→Ctr Tryz.prog 130 [.c (.pt 0 0)] [rdrS s p] (.ag (owE (altS s f p).1)) [rdrS s (altS s f p).2]:=by
 induction f with
 | zero=>intro p h1 h2;have:=h1.1;omega
 | succ f ih =>
  intro p h1 h2
  have hkid:∀r:PS,Pre s r→p.a≤r.a→r.b=false→r.a<s.size→r.d≤7→GoodS s ⟨r.a+1,r.d+1,r.b⟩ (altS s f ⟨r.a+1,r.d+1,r.b⟩):=fun r hr hra hb hlt hd=>zv15 hs f _ ⟨by show r.a+1≤_;omega,by show r.d+1≤9;omega,fun _=>by show r.d+1≤8;omega⟩ (by show s.size+1≤r.a+1+f;omega)
  have hat:∀r:PS,Pre s r→p.a≤r.a→GoodS s r (atomS s (altS s f) r)∧((atomS s (altS s f) r).2.b=false→r.a<(atomS s (altS s f) r).2.a):=fun r hr hra=>zv12 hs hr fun hb hlt hd=>hkid r hr hra hb hlt hd
  refine l3Alt_c hs h1 (fun q hq hqa=>zu15 hq fun r hr hra=>zw8 (hat r hr (by omega))) fun q hq hqa=>?_
  refine l3Cat_c hs hq (fun r hr hra=>zw8 (hat r hr (by omega))) fun r hr hra=>?_
  refine l3Item_c hs (hat r hr (by omega)).1 ?_
  have hpre:r.b=false→r.a<s.size→Pre s (r.go 1):=fun hb hlt=>⟨by show r.a+1≤_;omega,hr.2.1,hr.2.2⟩
  refine l3Atom_c hs hr (fun hb hlt=>?_) fun hb hlt=>zc11 (hpre hb hlt) hb fun hd=>hkid r hr (by omega) hb hlt hd
  exact l3Group_c hs (hpre hb hlt) hb (fun hd=>hkid r hr (by omega) hb hlt hd) fun hd=>ih _ ⟨by show r.a+1≤_;omega,by have:=hd;show r.d+1≤9;have h7:r.d≤7:=hd;omega,fun _=>by show r.d+1≤8;have h7:r.d≤7:=hd;omega⟩ (by show s.size+1≤r.a+1+f;omega)
set_option maxHeartbeats 4000000 in
theorem zd12 {s:ByteArray}(hs:s.size≤1048576):Ctr Tryz.prog 122 [.c (.v (.string s))] [] (.tu [.ag (owE (rexR s)),.c (.v (.bool (parI s)))]) []:=by
 rw [rexR_S,zw19]
 by_cases hbig:1000<s.size
 ·have hP:parS s=false:=by unfold parS;rw [decide_eq_false (by omega)];rfl
  rw [hP]
  refine ze1 Tryz.func122 rfl rfl ?_
  repeat' (first|(apply f_wo;first|(apply f_mv;refine zv (v:=.c _) ?_)|(apply f_as;refine zq (v:=.c _) ?_)|(apply f_bi;refine za4 ?_)|(apply zn3;refine za2 ?_)|refine n_al ?_)|(apply f_w;first|refine zj ?_|refine zb ?_)|refine za fun C=>?_|refine zd ?_)
  refine zi (by rfl) (fun hC=>?_) fun hC=>by exfalso;simp only [decide_eq_false_iff_not] at hC;omega
  repeat' (first|(apply f_wo;first|(apply f_as;refine zq (v:=.c _) ?_)|(apply f_st;refine n_st ?_)|refine zz1 ?_)|(apply f_w;first|refine zj ?_|refine zb ?_)|refine za fun C=>?_|refine zd ?_)
  refine zk3 (zf5 900 (i:=2) 140 3 rfl rfl (pre:=[_,_]) (post:=[]) rfl) ?_
  refine zh ?_;refine ret0 rfl (zx6 (zz2 (zt2 (zg2 rfl (zg2 rfl (zp2 rfl rfl rfl (by first|exact zo _|exact zk _|exact bytC_clo _|(simp [cloL,clo,zo,zk,zd1,zc1,zt];done)|(simp [cloL,clo,opC,opL,zo,zk,zd1,zc1,zt];done)) zf2)))) (zz2 zg1 zv4))) ⟨?_,rfl⟩
  rfl
 have hpre:Pre s p00:=⟨Nat.zero_le _,by show (0:Nat)≤9;omega,fun _=>by show (0:Nat)≤8;omega⟩
 have halt:=altS_c hs (s.size+8) p00 hpre (by show s.size+1≤0+(s.size+8);omega)
 have hgd:=zv15 hs (s.size+8) p00 hpre (by show s.size+1≤0+(s.size+8);omega)
 have hsz:(altS s (s.size+8) p00).2.b=false→(altS s (s.size+8) p00).1.sz≤4194304:=fun hb=>by
  have h1:=(zs19 (s.size+8) p00 rfl (by show (0:Nat)≤8;omega) hb).1
  have h2:=(zx8 hs).2.2
  unfold readI at h2
  rw [h1] at h2;omega
 unfold parS
 unfold readS
 rw [decide_eq_true (show s.size≤1000 by omega)]
 obtain⟨⟨e,q⟩,hq⟩:∃r,altS s (s.size+8) p00=r:=⟨_,rfl⟩
 rw [hq] at halt hgd hsz ⊢
 have hf:Fine e:=hgd.fine
 dsimp only at halt hsz ⊢
 have hty:=hf.ty.1
 obtain⟨qa,qd,qb⟩:=q
 dsimp only at hsz
 cases qb with
 | true =>
  cases hf with
  | mk k t l hk ht hl2 =>
  unfold rdrS at halt
  dsimp only [p00] at halt ⊢
  refine ze1 Tryz.func122 rfl rfl ?_
  repeat' (first|(apply f_wo;first|(apply f_mv;refine zv (v:=.c _) ?_)|(apply f_as;refine zq (v:=.c _) ?_)|(apply f_bi;refine za4 ?_)|(apply zn3;refine za2 ?_)|refine n_al ?_)|(apply f_w;first|refine zj ?_|refine zb ?_)|refine za fun C=>?_|refine zd ?_)
  refine zi (by rfl) (fun hC=>by exfalso;simp only [decide_eq_true_iff] at hC;omega) fun hC=>?_
  repeat' (first|(apply f_wo;first|(apply f_gs;refine n_sk ?_)|(apply f_mv;first|(refine zx1 ?_ ?_<;>intro hG<;>(try cases hG))|refine zv (v:=.c _) ?_)|(apply f_as;refine zq (v:=.c _) ?_)|(apply f_fa;refine n_fa ?_)|(apply f_ld;refine zn1 ?_)|(apply f_ca;refine zh2 12 (halt) ?_)|(apply f_st;refine n_st ?_)|(apply f_pk;refine zw1 (v:=.c _) ?_)|refine n_al ?_|refine n_bo ?_|refine zz1 ?_)|(apply f_w;first|refine zj ?_|refine zb ?_)|refine za fun C=>?_|refine zd ?_|refine zg ?_|refine za1 rfl ?_)
  refine zk3 (zf5 900 (i:=2) 140 3 rfl rfl (pre:=[_,_]) (post:=[]) rfl) ?_
  refine zh ?_;refine ret0 rfl (zx6 (zz2 (zt2 (zg2 rfl (zg2 rfl (zp2 rfl rfl rfl (by first|exact zo _|exact zk _|exact bytC_clo _|(simp [cloL,clo,zo,zk,zd1,zc1,zt];done)|(simp [cloL,clo,opC,opL,zo,zk,zd1,zc1,zt];done)) zf2)))) (zz2 zg1 zv4))) ⟨?_,rfl⟩
  rfl
 | false =>
  have c2:=ze14 hty (hsz rfl)
  cases hf with
  | mk k t l hk ht hl2 =>
  unfold rdrS at halt
  dsimp only [p00] at halt ⊢
  refine ze1 Tryz.func122 rfl rfl ?_
  repeat' (first|(apply f_wo;first|(apply f_mv;refine zv (v:=.c _) ?_)|(apply f_as;refine zq (v:=.c _) ?_)|(apply f_bi;refine za4 ?_)|(apply zn3;refine za2 ?_)|refine n_al ?_)|(apply f_w;first|refine zj ?_|refine zb ?_)|refine za fun C=>?_|refine zd ?_)
  refine zi (by rfl) (fun hC=>by exfalso;simp only [decide_eq_true_iff] at hC;omega) fun hC=>?_
  repeat' (first|(apply f_wo;first|(apply f_gs;refine n_sk ?_)|(apply f_mv;first|(refine zx1 ?_ ?_<;>intro hG<;>(try cases hG))|refine zv (v:=.c _) ?_)|(apply f_as;refine zq (v:=.c _) ?_)|(apply f_fa;refine n_fa ?_)|(apply f_ld;first|refine zn1 ?_|refine zs2 ?_)|(apply f_ca;first|refine zh2 12 (halt) ?_|refine zk1 c2 ?_)|(apply f_bi;refine za4 ?_)|(apply f_st;refine n_st ?_)|(apply zn2;first|refine zm1 ?_|refine zf3 ?_)|(apply f_pk;refine zw1 (v:=.c _) ?_)|refine n_al ?_|refine n_bo ?_|refine zz1 ?_)|(apply f_w;first|refine zj ?_|refine zb ?_)|refine za fun C=>?_|refine zd ?_|refine zg ?_)
  ·repeat' (first|(apply f_wo;first|(apply f_as;refine zq (v:=.c _) ?_)|(apply f_st;refine n_st ?_)|refine zz1 ?_)|(apply f_w;first|refine zj ?_|refine zb ?_)|refine za fun C=>?_|refine zd ?_|refine za1 rfl ?_)
   refine zk3 (zf5 900 (i:=2) 140 3 rfl rfl (pre:=[_,_]) (post:=[]) rfl) ?_
   refine zh ?_;refine ret0 rfl (zx6 (zz2 (zt2 (zg2 rfl (zg2 rfl (zp2 rfl rfl rfl (by first|exact zo _|exact zk _|exact bytC_clo _|(simp [cloL,clo,zo,zk,zd1,zc1,zt];done)|(simp [cloL,clo,opC,opL,zo,zk,zd1,zc1,zt];done)) zf2)))) (zz2 zg1 zv4))) ⟨?_,rfl⟩
   have hP:(true&&!false&&(qa==s.size)&&(rexT (rexE k t l)).toList==s.toList)=false:=by clear halt c2;first|(simp_all;done)|(simp_all;(try intros);omega)
   rw [hP];rfl
  ·refine zi (by rfl) (fun hC=>?_) fun hC=>?_
   ·repeat' (first|(apply f_wo;first|(apply f_as;refine zq (v:=.c _) ?_)|(apply f_st;refine n_st ?_)|refine zz1 ?_)|(apply f_w;first|refine zj ?_|refine zb ?_)|refine za fun C=>?_|refine zd ?_)
    refine zk3 (zf5 900 (i:=2) 140 3 rfl rfl (pre:=[_,_]) (post:=[]) rfl) ?_
    refine zh ?_;refine ret0 rfl (zx6 (zz2 (zt2 (zg2 rfl (zg2 rfl (zp2 rfl rfl rfl (by first|exact zo _|exact zk _|exact bytC_clo _|(simp [cloL,clo,zo,zk,zd1,zc1,zt];done)|(simp [cloL,clo,opC,opL,zo,zk,zd1,zc1,zt];done)) zf2)))) (zz2 zg1 zv4))) ⟨?_,rfl⟩
    have hP:(true&&!false&&(qa==s.size)&&(rexT (rexE k t l)).toList==s.toList)=false:=by clear halt c2;first|(simp_all;done)|(simp_all;(try intros);omega)
    rw [hP];rfl
   ·repeat' (first|(apply f_wo;first|(apply f_as;refine zq (v:=.c _) ?_)|(apply f_ld;refine zs2 ?_)|(apply f_st;refine n_st ?_))|(apply f_w;first|refine zj ?_|refine zb ?_)|refine za fun C=>?_|refine zd ?_|refine zg ?_)
    refine zh ?_;refine ret0 rfl (zx6 (zz2 (zt2 (zg2 rfl (zg2 rfl (zp2 rfl rfl rfl (by first|exact zo _|exact zk _|exact bytC_clo _|(simp [cloL,clo,zo,zk,zd1,zc1,zt];done)|(simp [cloL,clo,opC,opL,zo,zk,zd1,zc1,zt];done)) zf2)))) (zz2 zg1 zv4))) ⟨?_,rfl⟩
    have hP:(true&&!false&&(qa==s.size)&&(rexT (rexE k t l)).toList==s.toList)=true:=by clear halt c2;first|(simp_all;done)|(simp_all;(try intros);omega)
    rw [hP];rfl
def rexN (s:ByteArray):Bool:=parI s&&decide (s.size≤200)
theorem zy15 {s:ByteArray}(hs:s.size≤1048576):Fine (rexR s):=by
 unfold rexR
 split
 ·exact (zx8 hs).1
 ·exact Fine.zero
theorem zw12 {s:ByteArray}(hs:s.size≤1048576):Ctr Tryz.prog 116 [.c (.v (.string s))] [] (.c (.v (.bool (rexN s)))) []:=by
 have hc:=zc12 hs
 have hf:=zy15 hs
 generalize rexR s=e at hc hf
 cases hf with
 | mk k t l hk ht hl2 =>
 refine ze1 Tryz.func116 rfl rfl ?_
 unfold rexN
 generalize parI s=b at *
 repeat' (first|(apply f_wo;first|(apply f_gs;refine n_sk ?_)|(apply f_mv;first|(refine zx1 ?_ ?_<;>intro hG<;>(try cases hG))|refine zv (v:=.c _) ?_|refine zv (v:=.tu _) ?_)|(apply f_as;refine zq (v:=.c _) ?_)|(apply f_ca;refine n_cak hc ?_)|(apply f_bi;refine za4 ?_)|(apply f_st;refine n_st ?_)|(apply zo4;refine zl2 ?_)|(apply f_pk;refine zw1 (v:=.c _) ?_)|(apply f_ex;first|refine n_exv (v:=.c _) ?_|refine zz1 ?_)|refine n_al ?_)|(apply f_w;first|refine zj ?_|refine zb ?_)|refine za fun C=>?_|refine zd ?_)
 all_goals
  (first|refine zh ?_|skip);refine ret0 rfl zg1 ⟨?_,rfl⟩;refine congrArg (fun s=>AV.c (AC.v (Value.bool s))) ?_
  first
   | rfl
   | (simp only [Bool.true_and];(rw [Bool.eq_iff_iff];(try simp only [Bool.and_eq_true,Bool.or_eq_true,Bool.not_eq_true',decide_eq_true_iff,decide_eq_false_iff_not,beq_iff_eq,Bool.and_eq_false_iff,Bool.or_eq_false_iff,bne_iff_ne,ne_eq,Bool.true_eq_false,Bool.false_eq_true,true_iff,false_iff,iff_true,iff_false] at *);first|omega|(simp at *;omega)))
theorem l8Rex_c {s:ByteArray}(hs:s.size≤1048576):Ctr Tryz.prog 111 [.c (.v (.string s))] [] (.c (.v (.bool (rexN s)))) []:=by
 have hc:=zd12 hs
 have hf:=zy15 hs
 generalize rexR s=e at hc hf
 cases hf with
 | mk k t l hk ht hl2 =>
 refine ze1 Tryz.func111 rfl rfl ?_
 unfold rexN
 generalize parI s=b at *
 repeat' (first|(apply f_wo;first|(apply f_gs;refine n_sk ?_)|(apply f_mv;first|(refine zx1 ?_ ?_<;>intro hG<;>(try cases hG))|refine zv (v:=.c _) ?_|refine zv (v:=.tu _) ?_)|(apply f_as;refine zq (v:=.c _) ?_)|(apply f_ca;refine n_cak hc ?_)|(apply f_bi;refine za4 ?_)|(apply f_st;refine n_st ?_)|(apply zo4;refine zl2 ?_)|(apply f_pk;refine zw1 (v:=.c _) ?_)|(apply f_ex;first|refine n_exv (v:=.c _) ?_|refine zz1 ?_)|refine n_al ?_)|(apply f_w;first|refine zj ?_|refine zb ?_)|refine za fun C=>?_|refine zd ?_)
 all_goals
  (first|refine zh ?_|skip);refine ret0 rfl zg1 ⟨?_,rfl⟩;refine congrArg (fun s=>AV.c (AC.v (Value.bool s))) ?_
  first
   | rfl
   | (simp only [Bool.true_and];(rw [Bool.eq_iff_iff];(try simp only [Bool.and_eq_true,Bool.or_eq_true,Bool.not_eq_true',decide_eq_true_iff,decide_eq_false_iff_not,beq_iff_eq,Bool.and_eq_false_iff,Bool.or_eq_false_iff,bne_iff_ne,ne_eq,Bool.true_eq_false,Bool.false_eq_true,true_iff,false_iff,iff_true,iff_false] at *);first|omega|(simp at *;omega)))
theorem zz17 {l:List E}(hl:∀e∈l,e.Ty Tryz.prog 9)(hk:∀e∈l,e.enc.length=1)(hlen:l.length≤1073741824)(v:ByteArray):Ctr Tryz.prog 92 [.c (.ro l.length 1 (acL l)),.c (.v (.string v))] [] (.c (.v (.int .i64 (idxF (fun e=>v.toList==(strB e).toList) l)))) []:=by
 refine ze1 Tryz.func92 rfl rfl ?_
 repeat (first|refine zd ?_|refine ze ?_|refine zg ?_|refine zu ?_|refine zh ?_|refine za fun C=>?_|refine zn (by kernel_rfl) (by kernel_rfl) fun C=>?_|refine zb ?_|refine zm2 ?_|refine x_bs ?_|refine x_gr ?_|refine x_st ?_|refine x_mv ?_|refine x_sk ?_|refine zd3 ?_|refine x_ix ?_|refine za3 ?_|refine ze3 ?_|refine zb3 ?_|refine zk2 ?_|refine x_ld ?_)
 refine zv1 (fun k:Nat=>⟨tmsF [(0,.c (.ro l.length 1 (acL l))),(1,.c (.v (.string v))),(7,.c (.v (.int .i64 l.length))),(8,.c (.v (.int .i64 k)))],hpsF [],0,[],19⟩)
  (fun N k=>k+N=l.length∧∀j y,j<k→l[j]? = some y→(fun e=>v.toList==(strB e).toList) y=false) l.length 0 ⟨by omega,by omega⟩ ?_ ?_
 ·(refine zl1 _ _ rfl rfl ?_ ?_<;>(repeat' (first|exact TmOk.nil|exact RwOk.nil|refine TmOk.cons ?_ ?_|refine RwOk.cons ?_ ?_|rfl|(refine rnV_id' rfl ?_;exact byc)|(refine zp1 ?_;first|rfl|omega|(rw [zw (by omega) (by omega)];omega))|(refine zb1 rfl ?_;exact byc)|exact zc2 rfl rfl|(refine zq1 (by rfl) (by rfl) ?_ ?_<;>exact byc)|(refine rw_rn' rfl rfl ?_;simp;done))))
 rintro N k ⟨hN,hno⟩
 repeat (first|refine zd ?_|refine ze ?_|refine zg ?_|refine zu ?_|refine zh ?_|refine za fun C=>?_|refine zn (by kernel_rfl) (by kernel_rfl) fun C=>?_|refine zb ?_|refine zm2 ?_|refine x_bs ?_|refine x_gr ?_|refine x_st ?_|refine x_mv ?_|refine x_sk ?_|refine zd3 ?_|refine x_ix ?_|refine za3 ?_|refine ze3 ?_|refine zb3 ?_|refine zk2 ?_|refine x_ld ?_)
 refine zy2 (by rfl) (fun h1=>?_) fun h1=>?_
 ·have hk':k<l.length:=by simpa using h1
  obtain⟨x,hx⟩:∃x,l[k]? = some x:=⟨_,List.getElem?_eq_getElem hk'⟩
  have hxt:=hl x (List.mem_of_getElem? hx)
  obtain⟨y0,rfl,-⟩:=hxt.str_ Tryz.underlying9
  repeat (first|refine zd ?_|refine ze ?_|refine zg ?_|refine zu ?_|refine zh ?_|refine za fun C=>?_|refine zn (by kernel_rfl) (by kernel_rfl) fun C=>?_|refine zb ?_|refine zm2 ?_|refine x_bs ?_|refine x_gr ?_|refine x_st ?_|refine x_mv ?_|refine x_sk ?_|refine zd3 ?_|refine x_ix ?_|refine za3 ?_|refine ze3 ?_|refine zb3 ?_|refine zk2 ?_|refine x_ld ?_)
  refine zy2 (by rfl) (fun h2=>?_) fun h2=>?_
  ·repeat (first|refine zd ?_|refine ze ?_|refine zg ?_|refine zu ?_|refine zh ?_|refine za fun C=>?_|refine zn (by kernel_rfl) (by kernel_rfl) fun C=>?_|refine zb ?_|refine zm2 ?_|refine x_bs ?_|refine x_gr ?_|refine x_st ?_|refine x_mv ?_|refine x_sk ?_|refine zd3 ?_|refine x_ix ?_|refine za3 ?_|refine ze3 ?_|refine zb3 ?_|refine zk2 ?_|refine x_ld ?_)
   refine ret0 (x:=.c (.v (.int .i64 k))) rfl zg1 ⟨?_,rfl⟩
   rw [zb7 hno hx (by simpa [strB] using h2)]
  ·repeat (first|refine zd ?_|refine ze ?_|refine zg ?_|refine zu ?_|refine zh ?_|refine za fun C=>?_|refine zn (by kernel_rfl) (by kernel_rfl) fun C=>?_|refine zb ?_|refine zm2 ?_|refine x_bs ?_|refine x_gr ?_|refine x_st ?_|refine x_mv ?_|refine x_sk ?_|refine zd3 ?_|refine x_ix ?_|refine za3 ?_|refine ze3 ?_|refine zb3 ?_|refine zk2 ?_|refine x_ld ?_)
   refine⟨N-1,k+1,by omega,⟨by omega,fun j z hj hz=>?_⟩,?_⟩
   ·by_cases e:j=k
    ·rw [e,hx] at hz;injection hz with hz;subst hz;simpa [strB] using h2
    ·exact hno j z (by omega) hz
   ·(refine zl1 _ _ rfl rfl ?_ ?_<;>(repeat' (first|exact TmOk.nil|exact RwOk.nil|refine TmOk.cons ?_ ?_|refine RwOk.cons ?_ ?_|rfl|(refine rnV_id' rfl ?_;exact byc)|(refine zp1 ?_;first|rfl|omega|(rw [zw (by omega) (by omega)];omega))|(refine zb1 rfl ?_;exact byc)|exact zc2 rfl rfl|(refine zq1 (by rfl) (by rfl) ?_ ?_<;>exact byc)|(refine rw_rn' rfl rfl ?_;simp;done))))
 ·have hk':¬k<l.length:=by simpa using h1
  repeat (first|refine zd ?_|refine ze ?_|refine zg ?_|refine zu ?_|refine zh ?_|refine za fun C=>?_|refine zn (by kernel_rfl) (by kernel_rfl) fun C=>?_|refine zb ?_|refine zm2 ?_|refine x_bs ?_|refine x_gr ?_|refine x_st ?_|refine x_mv ?_|refine x_sk ?_|refine zd3 ?_|refine x_ix ?_|refine za3 ?_|refine ze3 ?_|refine zb3 ?_|refine zk2 ?_|refine x_ld ?_)
  refine ret0 (x:=.c (.v (.int .i64 (-1)))) rfl zg1 ⟨?_,rfl⟩
  rw [zy4 fun j y hj hy=>hno j y (by omega) hy]
theorem zg7 {l:List E}(hl:∀e∈l,e.Ty Tryz.prog 9)(hk:∀e∈l,e.enc.length=1)(hlen:l.length≤1073741824)(v:ByteArray):Ctr Tryz.prog 65 [.c (.ro l.length 1 (acL l)),.c (.v (.string v))] [] (.c (.v (.bool (l.any (fun e=>v.toList==(strB e).toList))))) []:=by
 refine ze1 Tryz.func65 rfl rfl ?_
 have hcc:=zz17 hl hk hlen v
 repeat (first|refine zd ?_|refine ze ?_|refine zg ?_|refine zu ?_|refine zh ?_|refine za fun C=>?_|refine zn (by kernel_rfl) (by kernel_rfl) fun C=>?_|refine zb ?_|refine zm2 ?_|refine x_bs ?_|refine x_gr ?_|refine x_st ?_|refine x_mv ?_|refine x_sk ?_|refine zd3 ?_|refine x_ix ?_|refine za3 ?_|refine ze3 ?_|refine zb3 ?_|refine zk2 ?_|refine x_ld ?_)
 refine zn7 hcc ?_
 repeat (first|refine zd ?_|refine ze ?_|refine zg ?_|refine zu ?_|refine zh ?_|refine za fun C=>?_|refine zn (by kernel_rfl) (by kernel_rfl) fun C=>?_|refine zb ?_|refine zm2 ?_|refine x_bs ?_|refine x_gr ?_|refine x_st ?_|refine x_mv ?_|refine x_sk ?_|refine zd3 ?_|refine x_ix ?_|refine za3 ?_|refine ze3 ?_|refine zb3 ?_|refine zk2 ?_|refine x_ld ?_)
 refine ret0 (x:=.c (.v (.bool (decide (idxF (fun e=>v.toList==(strB e).toList) l ≥ 0))))) rfl zg1 ⟨?_,rfl⟩
 rw [zp7]
end Go.Proofs.YtnjfnhoipnbpeaaGreatDoor
