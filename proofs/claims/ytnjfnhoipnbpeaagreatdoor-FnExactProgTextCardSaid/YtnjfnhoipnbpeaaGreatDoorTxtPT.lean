/- The program's reader of regular expressions: items, rows of items, alternatives: by the abstract machine. -/
import Derived.Test.YtnjfnhoipnbpeaaGreatDoorTxtPS
namespace Go.Proofs.YtnjfnhoipnbpeaaGreatDoor
open Go.RowKit
set_option maxRecDepth 100000
theorem itemI_eq {s:ByteArray}{atom:PS→E×PS}{p:PS}{e:E}{a d:Nat}{b:Bool}(h:atom p=(e,⟨a,d,b⟩)):itemI s atom p =
 (if bAt s a=42 then (rexE 6 ByteArray.empty [e],⟨a+1,d,b⟩) else if bAt s a=43 then (rexE 7 ByteArray.empty [e],⟨a+1,d,b⟩) else if bAt s a=63 then (rexE 8 ByteArray.empty [e],⟨a+1,d,b⟩) else (e,⟨a,d,b⟩)):=by
 unfold itemI
 rw [h];rfl
set_option maxHeartbeats 4000000 in
theorem item_c {s:ByteArray}(hs:s.size≤1048576){atom:PS→E×PS}{p:PS}(hg:Good s p (atom p) 1 1 0)
 (ha:Ctr Tryz.prog 161 [.c (.pt 0 0)] [rdrI s p] (.ag (owE (atom p).1)) [rdrI s (atom p).2]) :
 Ctr Tryz.prog 150 [.c (.pt 0 0)] [rdrI s p] (.ag (owE (itemI s atom p).1)) [rdrI s (itemI s atom p).2]:=by
 obtain⟨⟨e,q⟩,hq⟩:∃r,atom p=r:=⟨_,rfl⟩
 rw [hq] at ha hg
 have hn3:=zu12 hs (p:=q)
 have hle:q.a≤s.size:=hg.le
 obtain⟨qa,qd,qb⟩:=q
 rw [itemI_eq hq]
 clear hq
 have hfi:Fine e:=hg.fine
 clear hg
 unfold rdrI at *
 dsimp only at ha hn3 hle ⊢
 cases hfi with
 | mk k t l hk ht hl2 =>
 generalize hv:bAt s qa=v at *
 refine ze1 Tryz.func150 rfl rfl ?_
 have hb3:(⟨5,1,3,false,[.v (.int .u8 42),.v (.int .u8 43),.v (.int .u8 63)]⟩:Row).cs.length=3:=rfl
 repeat' (first|(apply f_wo;first|(apply f_mv;refine zv (v:=.c _) ?_)|(apply f_ca;refine zh2 0 (ha) ?_)|(apply f_st;refine n_st ?_)|refine n_al ?_|refine n_bs ?_)|(apply f_w;first|refine zj ?_|refine zb ?_)|refine za fun C=>?_|refine zd ?_)
 refine n_cvm ?_ (e:=5) (by kernel_rfl) (by kernel_rfl)
 repeat' (first|(apply f_wo;first|(apply f_mv;refine zv (v:=.c _) ?_)|(apply f_bi;refine zy1 ?_))|(apply f_w;first|refine zj ?_|refine zb ?_)|refine ze ?_)
 refine zv1 (fun j:Nat=>⟨tmsF [(0,.c (.pt 0 0)),(2,.c (.pt 2 0)),(3,.c (.pt 3 0)),(9,.c (.ro 3 1 [.v (.int .u8 42),.v (.int .u8 43),.v (.int .u8 63)])),(10,.c (.v (.int .i64 3))),(11,.c (.v (.int .i64 j)))],hpsF [(0,0,⟨0,0,0,true,[.v (.string s),.v (.int .i64 qa),.v (.int .i64 qd),.v (.bool qb)]⟩),(2,2,⟨140,0,0,true,[.v (.int .i64 0),.v (.string ByteArray.empty),.v (.slice none 0 0)]⟩),(3,3,⟨140,0,0,true,[.v (.int .i64 k),.v (.string t),.sl 5 l.length]⟩),(5,5,⟨140,3,l.length,false,owL l⟩)],1,[0,2,3,5],34⟩)
  (fun N j=>j+N=3∧(1≤j→v≠42)∧(2≤j→v≠43)∧(3≤j→v≠63)) 3 0 ⟨by omega,by omega,by omega,by omega⟩ ?_ ?_
 ·(refine zi6 (fun j=>if j=5 then 800 else j) _ _ rfl rfl ?_ ?_<;>(repeat' (first|exact TmOk.nil|exact RwOk.nil|refine TmOk.cons ?_ ?_|refine RwOk.cons ?_ ?_|rfl|(refine rnV_id' rfl ?_;exact byc)|(refine zp1 ?_;first|rfl|omega|(rw [zw (by omega) (by omega)];omega))|(refine zb1 rfl ?_;exact byc)|exact zc2 rfl rfl|(refine zq1 (by rfl) (by rfl) ?_ ?_<;>exact byc)|(refine rw_rn' rfl rfl ?_;simp;done))))
 rintro N j ⟨hN,hj1,hj2,hj3⟩
 obtain rfl|rfl|rfl|rfl:j=0∨j=1∨j=2∨j=3:=by omega
 ·by_cases hv0:v=42
  ·rw [if_pos hv0]
   subst hv0
   have hlt:qa<s.size:=zq3 (by rw [hv];decide)
   repeat' (first|(apply f_wo;first|(apply f_mv;refine zv (v:=.c _) ?_)|(apply f_as;refine zq (v:=.c _) ?_)|(apply f_fa;refine n_fa ?_)|(apply f_ld;first|refine zn1 ?_|refine zz3 ?_|refine zs2 ?_)|(apply f_ca;refine zh2 0 (hn3) ?_)|(apply f_st;refine n_st ?_)|(apply f_ia;refine zz1 ?_)|(apply zr1;refine zv2 ?_)|(apply zg3;refine zs1 ?_)|(apply zd2;refine zj1 ?_)|refine n_bs ?_|refine zz1 ?_)|(apply f_w;first|refine zj ?_|refine zb ?_)|refine za fun C=>?_|refine zd ?_|refine ze ?_|refine zg ?_|refine za1 rfl ?_)
   refine zk3 (zk8 (i:=30) (j:=5) rfl rfl rfl (pre:=[_,_]) (post:=[]) rfl) ?_
   refine zh ?_;refine ret1 rfl (zt2 (zg2 rfl (zg2 rfl (zp2 rfl rfl rfl (by first|exact zo _|exact zk _|exact bytC_clo _|(simp [cloL,clo,zo,zk,zd1,zc1,zt];done)|(simp [cloL,clo,opC,opL,zo,zk,zd1,zc1,zt];done)) zf2)))) rfl (by first|rfl|(simp [cloL,clo,zo,zk,zd1,zc1,zt];done)) rfl ⟨?_,?_⟩
   ·rfl
   ·rfl
  ·repeat' (first|(apply f_wo;first|(apply f_mv;refine zv (v:=.c _) ?_)|(apply f_as;refine zq (v:=.c _) ?_)|(apply f_ld;refine zz3 ?_)|(apply f_ca;refine zh2 0 (hn3) ?_)|(apply f_ia;refine zz1 ?_)|(apply zr1;refine zv2 ?_)|(apply zg3;refine zs1 ?_))|(apply f_w;first|refine zj ?_|refine zb ?_)|refine za fun C=>?_|refine zd ?_|refine ze ?_|refine zg ?_|refine za1 rfl ?_)
   refine zi (by rfl) (fun hC=>absurd (eq_of_beq hC) (by omega)) fun hC=>?_
   repeat' (first|(apply f_wo;first|(apply f_mv;refine zv (v:=.c _) ?_)|(apply zd2;refine zj1 ?_))|(apply f_w;first|refine zj ?_|refine zb ?_)|refine za fun C=>?_|refine zg ?_)
   refine⟨N-1,1,by omega,⟨by omega,by omega,by omega,by omega⟩,?_⟩
   (refine zl1 _ _ rfl rfl ?_ ?_<;>(repeat' (first|exact TmOk.nil|exact RwOk.nil|refine TmOk.cons ?_ ?_|refine RwOk.cons ?_ ?_|rfl|(refine rnV_id' rfl ?_;exact byc)|(refine zp1 ?_;first|rfl|omega|(rw [zw (by omega) (by omega)];omega))|(refine zb1 rfl ?_;exact byc)|exact zc2 rfl rfl|(refine zq1 (by rfl) (by rfl) ?_ ?_<;>exact byc)|(refine rw_rn' rfl rfl ?_;simp;done))))
 ·by_cases hv1:v=43
  ·rw [if_neg (hj1 (by omega)),if_pos hv1]
   subst hv1
   have hlt:qa<s.size:=zq3 (by rw [hv];decide)
   repeat' (first|(apply f_wo;first|(apply f_mv;refine zv (v:=.c _) ?_)|(apply f_as;refine zq (v:=.c _) ?_)|(apply f_fa;refine n_fa ?_)|(apply f_ld;first|refine zn1 ?_|refine zz3 ?_|refine zs2 ?_)|(apply f_ca;refine zh2 0 (hn3) ?_)|(apply f_st;refine n_st ?_)|(apply f_ia;refine zz1 ?_)|(apply zr1;refine zv2 ?_)|(apply zg3;refine zs1 ?_)|(apply zd2;refine zj1 ?_)|refine n_bs ?_|refine zz1 ?_)|(apply f_w;first|refine zj ?_|refine zb ?_)|refine za fun C=>?_|refine zd ?_|refine ze ?_|refine zg ?_|refine za1 rfl ?_)
   refine zk3 (zk8 (i:=30) (j:=5) rfl rfl rfl (pre:=[_,_]) (post:=[]) rfl) ?_
   refine zh ?_;refine ret1 rfl (zt2 (zg2 rfl (zg2 rfl (zp2 rfl rfl rfl (by first|exact zo _|exact zk _|exact bytC_clo _|(simp [cloL,clo,zo,zk,zd1,zc1,zt];done)|(simp [cloL,clo,opC,opL,zo,zk,zd1,zc1,zt];done)) zf2)))) rfl (by first|rfl|(simp [cloL,clo,zo,zk,zd1,zc1,zt];done)) rfl ⟨?_,?_⟩
   ·rfl
   ·rfl
  ·repeat' (first|(apply f_wo;first|(apply f_mv;refine zv (v:=.c _) ?_)|(apply f_as;refine zq (v:=.c _) ?_)|(apply f_ld;refine zz3 ?_)|(apply f_ca;refine zh2 0 (hn3) ?_)|(apply f_ia;refine zz1 ?_)|(apply zr1;refine zv2 ?_)|(apply zg3;refine zs1 ?_))|(apply f_w;first|refine zj ?_|refine zb ?_)|refine za fun C=>?_|refine zd ?_|refine ze ?_|refine zg ?_|refine za1 rfl ?_)
   refine zi (by rfl) (fun hC=>absurd (eq_of_beq hC) (by omega)) fun hC=>?_
   repeat' (first|(apply f_wo;first|(apply f_mv;refine zv (v:=.c _) ?_)|(apply zd2;refine zj1 ?_))|(apply f_w;first|refine zj ?_|refine zb ?_)|refine za fun C=>?_|refine zg ?_)
   refine⟨N-1,2,by omega,⟨by omega,by omega,by omega,by omega⟩,?_⟩
   (refine zl1 _ _ rfl rfl ?_ ?_<;>(repeat' (first|exact TmOk.nil|exact RwOk.nil|refine TmOk.cons ?_ ?_|refine RwOk.cons ?_ ?_|rfl|(refine rnV_id' rfl ?_;exact byc)|(refine zp1 ?_;first|rfl|omega|(rw [zw (by omega) (by omega)];omega))|(refine zb1 rfl ?_;exact byc)|exact zc2 rfl rfl|(refine zq1 (by rfl) (by rfl) ?_ ?_<;>exact byc)|(refine rw_rn' rfl rfl ?_;simp;done))))
 ·by_cases hv2:v=63
  ·rw [if_neg (hj1 (by omega)),if_neg (hj2 (by omega)),if_pos hv2]
   subst hv2
   have hlt:qa<s.size:=zq3 (by rw [hv];decide)
   repeat' (first|(apply f_wo;first|(apply f_mv;refine zv (v:=.c _) ?_)|(apply f_as;refine zq (v:=.c _) ?_)|(apply f_fa;refine n_fa ?_)|(apply f_ld;first|refine zn1 ?_|refine zz3 ?_|refine zs2 ?_)|(apply f_ca;refine zh2 0 (hn3) ?_)|(apply f_st;refine n_st ?_)|(apply f_ia;refine zz1 ?_)|(apply zr1;refine zv2 ?_)|(apply zg3;refine zs1 ?_)|(apply zd2;refine zj1 ?_)|refine n_bs ?_|refine zz1 ?_)|(apply f_w;first|refine zj ?_|refine zb ?_)|refine za fun C=>?_|refine zd ?_|refine ze ?_|refine zg ?_|refine za1 rfl ?_)
   refine zk3 (zk8 (i:=30) (j:=5) rfl rfl rfl (pre:=[_,_]) (post:=[]) rfl) ?_
   refine zh ?_;refine ret1 rfl (zt2 (zg2 rfl (zg2 rfl (zp2 rfl rfl rfl (by first|exact zo _|exact zk _|exact bytC_clo _|(simp [cloL,clo,zo,zk,zd1,zc1,zt];done)|(simp [cloL,clo,opC,opL,zo,zk,zd1,zc1,zt];done)) zf2)))) rfl (by first|rfl|(simp [cloL,clo,zo,zk,zd1,zc1,zt];done)) rfl ⟨?_,?_⟩
   ·rfl
   ·rfl
  ·repeat' (first|(apply f_wo;first|(apply f_mv;refine zv (v:=.c _) ?_)|(apply f_as;refine zq (v:=.c _) ?_)|(apply f_ld;refine zz3 ?_)|(apply f_ca;refine zh2 0 (hn3) ?_)|(apply f_ia;refine zz1 ?_)|(apply zr1;refine zv2 ?_)|(apply zg3;refine zs1 ?_))|(apply f_w;first|refine zj ?_|refine zb ?_)|refine za fun C=>?_|refine zd ?_|refine ze ?_|refine zg ?_|refine za1 rfl ?_)
   refine zi (by rfl) (fun hC=>absurd (eq_of_beq hC) (by omega)) fun hC=>?_
   repeat' (first|(apply f_wo;first|(apply f_mv;refine zv (v:=.c _) ?_)|(apply zd2;refine zj1 ?_))|(apply f_w;first|refine zj ?_|refine zb ?_)|refine za fun C=>?_|refine zg ?_)
   refine⟨N-1,3,by omega,⟨by omega,by omega,by omega,by omega⟩,?_⟩
   (refine zl1 _ _ rfl rfl ?_ ?_<;>(repeat' (first|exact TmOk.nil|exact RwOk.nil|refine TmOk.cons ?_ ?_|refine RwOk.cons ?_ ?_|rfl|(refine rnV_id' rfl ?_;exact byc)|(refine zp1 ?_;first|rfl|omega|(rw [zw (by omega) (by omega)];omega))|(refine zb1 rfl ?_;exact byc)|exact zc2 rfl rfl|(refine zq1 (by rfl) (by rfl) ?_ ?_<;>exact byc)|(refine rw_rn' rfl rfl ?_;simp;done))))
 ·rw [if_neg (hj1 (by omega)),if_neg (hj2 (by omega)),if_neg (hj3 (by omega))]
  repeat' (first|(apply f_wo;first|(apply f_ld;refine zs2 ?_)|(apply f_st;refine n_st ?_)|(apply zg3;refine zs1 ?_))|(apply f_w;first|refine zj ?_|refine zb ?_)|refine za fun C=>?_|refine zd ?_|refine zu ?_|refine zf1 rfl ?_)
  refine zh ?_;refine ret1 rfl (zt2 (zg2 rfl (zg2 rfl (zp2 rfl rfl rfl (by first|exact zo _|exact zk _|exact bytC_clo _|(simp [cloL,clo,zo,zk,zd1,zc1,zt];done)|(simp [cloL,clo,opC,opL,zo,zk,zd1,zc1,zt];done)) zf2)))) rfl (by first|rfl|(simp [cloL,clo,zo,zk,zd1,zc1,zt];done)) rfl ⟨?_,?_⟩
  ·rfl
  ·rfl
theorem zx17 {s:ByteArray}{item:PS→E×PS}{p:PS}(h:goI s p=false):∀(n:Nat) (l:List E),catLoopI s item n l p=(l,p)
 | 0,_=>rfl
 | n+1,l=>by unfold catLoopI;rw [if_neg (by rw [h];simp)]
theorem zx15 {s:ByteArray}{a d v:Nat}{b:Bool}(hv:bAt s a=v):goI s ⟨a,d,b⟩=(!b&&!(v==0)&&!(v==124)&&!(v==41)):=by unfold goI;rw [hv]
set_option maxHeartbeats 8000000 in
theorem cat_c {s:ByteArray}(hs:s.size≤1048576){item:PS→E×PS}{p0:PS}(hp:p0.a≤s.size)(hd:p0.d≤1048577)
 (hg:∀q,q.a<s.size→q.d=p0.d→p0.a≤q.a→Good s q (item q) 1 1 0)
 (hi:∀q,q.a<s.size→q.d=p0.d→p0.a≤q.a→Ctr Tryz.prog 150 [.c (.pt 0 0)] [rdrI s q] (.ag (owE (item q).1)) [rdrI s (item q).2]) :
 Ctr Tryz.prog 141 [.c (.pt 0 0)] [rdrI s p0] (.ag (owE (catI s item p0).1)) [rdrI s (catI s item p0).2]:=by
 refine ze1 Tryz.func141 rfl rfl ?_
 repeat' (first|(apply f_wo;first|(apply f_as;refine zq (v:=.c _) ?_)|refine n_al ?_)|(apply f_w;first|refine zj ?_|refine zb ?_)|refine za fun C=>?_|refine zd ?_|refine ze ?_)
 refine zv1 (fun q:List E×PS=>⟨tmsF [(0,.c (.pt 0 0)),(2,.c (.pt 2 0)),(3,.c (.sl 9 q.1.length))],hpsF [(0,0,⟨0,0,0,true,rdrI s q.2⟩),(2,2,⟨140,0,0,true,[.v (.int .i64 0),.v (.string ByteArray.empty),.v (.slice none 0 0)]⟩),(9,9,⟨140,3,q.1.length,false,owL q.1⟩)],1,[0,2,9],44⟩)
  (fun N q=>GoodL s p0 q.1 q.2 0∧s.size+2≤q.2.a+N∧catLoopI s item N q.1 q.2=catLoopI s item (s.size+2) [] p0) (s.size+2) ([],p0) ⟨⟨fun _ h=>absurd h List.not_mem_nil,Nat.le_refl _,hp,rfl,by simp,by simp [E.szL]⟩,by dsimp only;omega,rfl⟩ ?_ ?_
 ·refine (g_nilT 9 (t:=3) 140 3 rfl rfl).trans ?_
  (refine zl1 _ _ rfl rfl ?_ ?_<;>(repeat' (first|exact TmOk.nil|exact RwOk.nil|refine TmOk.cons ?_ ?_|refine RwOk.cons ?_ ?_|rfl|(refine rnV_id' rfl ?_;exact byc)|(refine zp1 ?_;first|rfl|omega|(rw [zw (by omega) (by omega)];omega))|(refine zb1 rfl ?_;exact byc)|exact zc2 rfl rfl|(refine zq1 (by rfl) (by rfl) ?_ ?_<;>exact byc)|(refine rw_rn' rfl rfl ?_;simp;done))))
 rintro N ⟨L,q⟩ ⟨hgl,hN,htot⟩
 dsimp only at hgl hN htot ⊢
 obtain⟨k1,k2,k3,k4,k5,k6⟩:=hgl
 have hnx:=zu12 hs (p:=q)
 obtain⟨M,rfl⟩:∃M,N=M+1:=⟨N-1,by omega⟩
 have htail:catI s item p0=if (catLoopI s item (M+1) L q).1.length=0 then (zeroR,(catLoopI s item (M+1) L q).2.bad) else (oneOr 4 (catLoopI s item (M+1) L q).1,(catLoopI s item (M+1) L q).2):=by unfold catI;rw [←htot]
 cases hgo:goI s q with
 | true =>
  obtain⟨hb,hlt,-⟩:=goI_lt hgo
  obtain⟨g1,g2,g3,g4,g5⟩:=hg q hlt k4 k2
  have hic:=hi q hlt k4 k2
  have hst:catLoopI s item (M+1) L q=catLoopI s item M (L++[(item q).1]) (item q).2:=by
   show (if goI s q then _ else _)=_
   rw [if_pos hgo]
  rw [hst] at htot
  clear htail hst hi hg
  obtain⟨⟨e,q2⟩,hq2⟩:∃r,item q=r:=⟨_,rfl⟩
  rw [hq2] at hic htot g1 g2 g3 g4 g5
  dsimp only at hic htot g1 g2 g3 g4 g5
  cases g1 with
  | mk k t l hk ht hl2 =>
  obtain⟨a,d,b⟩:=q
  have hb:b=false:=hb
  subst hb
  obtain⟨v,hv⟩:∃v,bAt s a=v:=⟨_,rfl⟩
  rw [zx15 hv] at hgo
  simp only [Bool.and_eq_true,Bool.not_eq_true',beq_eq_false_iff_ne] at hgo
  have hnx:Ctr Tryz.prog 142 [.c (.pt 0 0)] [rdrI s ⟨a,d,false⟩] (.c (.v (.int .u8 (v:Int)))) [rdrI s ⟨a,d,false⟩]:=by rw [←hv];exact hnx
  unfold rdrI at hnx hic ⊢
  dsimp only at hnx hic k2 k3 k4 k5 k6 hN g2 g3 g4 g5 ⊢
  repeat' (first|(apply f_wo;first|(apply f_gs;refine n_sk ?_)|(apply f_mv;first|(refine zx1 ?_ ?_<;>intro hG<;>(try cases hG))|refine zv (v:=.c _) ?_)|(apply f_fa;refine n_fa ?_)|(apply f_ld;refine zn1 ?_)|(apply f_ca;refine zh2 0 (hnx) ?_)|(apply zn2;refine zk5 ?_)|(apply f_no;refine zu2 ?_)|(apply f_pk;refine zw1 (v:=.c _) ?_)|refine zz1 ?_)|(apply f_w;first|refine zj ?_|refine zb ?_)|refine za fun C=>?_|refine zd ?_)
  all_goals first
   | (exfalso;simp at hG;omega)
   | skip
  refine zi (by rfl) (fun hC=>?_) fun hC=>absurd (bne_eq_false_iff_eq.1 hC) (by omega)
  repeat' (first|(apply f_wo;first|(apply f_mv;refine zv (v:=.c _) ?_)|(apply f_as;refine zq (v:=.c _) ?_)|(apply f_ca;refine zh2 0 (hic) ?_)|(apply f_bi;refine zj17 ?_)|refine n_bs ?_)|(apply f_w;first|refine zj ?_|refine zb ?_)|refine za fun C=>?_|refine ze ?_|refine zg ?_)
  refine⟨M,(L++[rexE k t l],q2),by omega,⟨⟨fun x hx=>?_,?_,g3,?_,?_,?_⟩,?_,htot⟩,?_⟩
  ·rcases List.mem_append.1 hx with hx|hx
   ·exact k1 x hx
   ·obtain rfl:=List.mem_singleton.1 hx;exact .mk k t l hk ht hl2
  ·dsimp only;omega
  ·dsimp only;omega
  ·dsimp only;rw [List.length_append,List.length_singleton];omega
  ·dsimp only;rw [zw7,List.length_append,List.length_singleton];omega
  ·dsimp only;omega
  ·dsimp only
   rw [List.length_append,List.length_singleton]
   refine (zk8 (i:=28) (j:=2700) rfl rfl rfl (pre:=owL L++[.v (.int .i64 k),.v (.string t)]) (post:=[]) (by rw [List.append_assoc];rfl)).trans ?_
   (refine zi6 (fun j=>if j=9 then 28 else j) _ _ rfl rfl ?_ ?_<;>(repeat' (first|exact TmOk.nil|exact RwOk.nil|refine TmOk.cons ?_ ?_|refine RwOk.cons ?_ ?_|rfl|(refine rnV_id' rfl ?_;exact byc)|(refine zp1 ?_;first|rfl|omega|(rw [zw (by omega) (by omega)];omega))|(refine zb1 rfl ?_;exact byc)|exact zc2 rfl rfl|(refine zq1 (by rfl) (by rfl) ?_ ?_<;>exact byc)|(refine rw_rn' rfl rfl ?_;simp;done))))
   exact zh17 (r:=⟨140,3,L.length+1,false,(owL L++[.v (.int .i64 k),.v (.string t)])++[.ow 140 l.length 3 (owL l)]⟩) rfl (by rw [zh6,List.append_assoc];rfl) (by first|rfl|(simp [cloV,cloL,clo,zc1,zk,zd1,zo,zt];done))
 | false =>
  rw [zx17 hgo] at htail
  rw [htail]
  clear htail hi hg htot
  obtain⟨a,d,b⟩:=q
  obtain⟨v,hv⟩:∃v,bAt s a=v:=⟨_,rfl⟩
  rw [zx15 hv] at hgo
  have hnx:Ctr Tryz.prog 142 [.c (.pt 0 0)] [rdrI s ⟨a,d,b⟩] (.c (.v (.int .u8 (v:Int)))) [rdrI s ⟨a,d,b⟩]:=by rw [←hv];exact hnx
  unfold rdrI at hnx ⊢
  dsimp only [PS.bad] at hnx k2 k3 k4 k5 k6 hN ⊢
  have hgo':b=true∨v=0∨v=124∨v=41:=by
   cases b with
   | true=>exact .inl rfl
   | false=>right;simp at hgo;omega
  match L,k1 with
  | [],_ =>
   rw [if_pos (show ([]:List E).length=0 from rfl)]
   cases b<;>repeat' (first|(apply f_wo;first|(apply f_gs;refine n_sk ?_)|(apply f_mv;first|(refine zx1 ?_ ?_<;>intro hG<;>(try cases hG))|refine zv (v:=.c _) ?_)|(apply f_fa;refine n_fa ?_)|(apply f_ld;refine zn1 ?_)|(apply f_ca;refine zh2 0 (hnx) ?_)|(apply zn2;refine zk5 ?_)|(apply f_no;refine zu2 ?_)|(apply f_pk;refine zw1 (v:=.c _) ?_)|refine zz1 ?_)|(apply f_w;first|refine zj ?_|refine zb ?_)|refine za fun C=>?_|refine zd ?_)
   all_goals first
    | refine zf1 rfl ?_
    | refine zi (by rfl) (fun hC=>by exfalso;clear hnx;simp only [bne_iff_ne,ne_eq,Bool.false_eq_true,false_or] at *;omega) fun hC=>?_
   all_goals
    repeat' (first|(apply f_wo;first|(apply f_mv;refine zv (v:=.c _) ?_)|(apply f_as;refine zq (v:=.c _) ?_)|(apply f_fa;refine n_fa ?_)|(apply f_bi;refine zj6 ?_)|(apply f_st;refine n_st ?_)|(apply zr1;refine zm ?_)|refine zz1 ?_)|(apply f_w;first|refine zj ?_|refine zb ?_)|refine za fun C=>?_|refine zd ?_|refine ze ?_|refine zu ?_|refine za1 rfl ?_)
    refine zk3 (zf5 900 (i:=2) 140 3 rfl rfl (pre:=[_,_]) (post:=[]) rfl) ?_;refine zh ?_;refine ret1 rfl (zt2 (zg2 rfl (zg2 rfl (zp2 rfl rfl rfl (by first|exact zo _|exact zk _|exact bytC_clo _|(simp [cloL,clo,zo,zk,zd1,zc1,zt];done)|(simp [cloL,clo,opC,opL,zo,zk,zd1,zc1,zt];done)) zf2)))) rfl (by first|rfl|(simp [cloL,clo,zo,zk,zd1,zc1,zt];done)) rfl ⟨?_,?_⟩
    ·rfl
    ·rfl
  | [x],hf =>
   rw [if_neg (show ¬[x].length=0 by simp)]
   have hx:=hf x (List.mem_singleton.2 rfl)
   cases hx with
   | mk k t l hk ht hl2 =>
   cases b<;>repeat' (first|(apply f_wo;first|(apply f_gs;refine n_sk ?_)|(apply f_mv;first|(refine zx1 ?_ ?_<;>intro hG<;>(try cases hG))|refine zv (v:=.c _) ?_)|(apply f_fa;refine n_fa ?_)|(apply f_ld;refine zn1 ?_)|(apply f_ca;refine zh2 0 (hnx) ?_)|(apply zn2;refine zk5 ?_)|(apply f_no;refine zu2 ?_)|(apply f_pk;refine zw1 (v:=.c _) ?_)|refine zz1 ?_)|(apply f_w;first|refine zj ?_|refine zb ?_)|refine za fun C=>?_|refine zd ?_)
   all_goals first
    | refine zf1 rfl ?_
    | refine zi (by rfl) (fun hC=>by exfalso;clear hnx;simp only [bne_iff_ne,ne_eq,Bool.false_eq_true,false_or] at *;omega) fun hC=>?_
   all_goals
    refine zk3 (g_rev 800 (i:=9) rfl rfl (pre:=[.v (.int .i64 k),.v (.string t)]) (post:=[]) rfl) ?_
    repeat' (first|(apply f_wo;first|(apply f_mv;refine zv (v:=.c _) ?_)|(apply f_as;refine zq (v:=.c _) ?_)|(apply f_ld;refine zs2 ?_)|(apply f_bi;refine zj6 ?_)|(apply f_st;refine n_st ?_)|(apply f_ia;refine zz1 ?_)|(apply zr1;refine zm ?_))|(apply f_w;first|refine zj ?_|refine zb ?_)|refine za fun C=>?_|refine zd ?_|refine ze ?_|refine zu ?_|refine za1 rfl ?_|refine zf1 rfl ?_)
    refine zh ?_;refine ret1 rfl (zt2 (zg2 rfl (zg2 rfl (zp2 rfl rfl rfl (by first|exact zo _|exact zk _|exact bytC_clo _|(simp [cloL,clo,zo,zk,zd1,zc1,zt];done)|(simp [cloL,clo,opC,opL,zo,zk,zd1,zc1,zt];done)) zf2)))) rfl (by first|rfl|(simp [cloL,clo,zo,zk,zd1,zc1,zt];done)) rfl ⟨?_,?_⟩
    ·rfl
    ·rfl
  | x :: y :: r,hf =>
   rw [if_neg (show ¬(x :: y :: r).length=0 by simp)]
   have hlen:(x :: y :: r).length=r.length+2:=rfl
   cases b<;>repeat' (first|(apply f_wo;first|(apply f_gs;refine n_sk ?_)|(apply f_mv;first|(refine zx1 ?_ ?_<;>intro hG<;>(try cases hG))|refine zv (v:=.c _) ?_)|(apply f_fa;refine n_fa ?_)|(apply f_ld;refine zn1 ?_)|(apply f_ca;refine zh2 0 (hnx) ?_)|(apply zn2;refine zk5 ?_)|(apply f_no;refine zu2 ?_)|(apply f_pk;refine zw1 (v:=.c _) ?_)|refine zz1 ?_)|(apply f_w;first|refine zj ?_|refine zb ?_)|refine za fun C=>?_|refine zd ?_)
   all_goals first
    | refine zf1 rfl ?_
    | refine zi (by rfl) (fun hC=>by exfalso;clear hnx;simp only [bne_iff_ne,ne_eq,Bool.false_eq_true,false_or] at *;omega) fun hC=>?_
   all_goals
    repeat' (first|(apply f_wo;first|(apply f_mv;refine zv (v:=.c _) ?_)|(apply f_as;refine zq (v:=.c _) ?_)|(apply f_bi;refine zj6 ?_)|(apply zr1;refine zm ?_))|(apply f_w;first|refine zj ?_|refine zb ?_)|refine za fun C=>?_|refine zd ?_|refine ze ?_|refine zu ?_)
    refine zi (by rfl) (fun hC=>by exfalso;simp at hC;omega) fun hC=>?_
    repeat' (first|(apply f_wo;first|(apply f_as;refine zq (v:=.c _) ?_)|(apply zr1;refine zm ?_))|(apply f_w;first|refine zj ?_|refine zb ?_)|refine za fun C=>?_|refine zd ?_)
    refine zi (by rfl) (fun hC=>by exfalso;simp at hC;omega) fun hC=>?_
    repeat' (first|(apply f_wo;first|(apply f_mv;refine zv (v:=.c _) ?_)|(apply f_st;refine n_st ?_)|refine zz1 ?_)|(apply f_w;first|refine zj ?_|refine zb ?_)|refine za fun C=>?_|refine zd ?_|refine zg ?_)
    refine zh ?_;refine ret1 rfl (zt2 (zg2 rfl (zg2 rfl (zp2 rfl rfl rfl (by first|exact zo _|exact zk _|exact bytC_clo _|(simp [cloL,clo,zo,zk,zd1,zc1,zt];done)|(simp [cloL,clo,opC,opL,zo,zk,zd1,zc1,zt];done)) zf2)))) rfl (by first|rfl|(simp [cloL,clo,zo,zk,zd1,zc1,zt];done)) rfl ⟨?_,?_⟩
    ·rfl
    ·rfl
theorem zy17 {s:ByteArray}{cat:PS→E×PS}{p:PS}(h:barI s p=false):∀(n:Nat) (l:List E),altLoopI s cat n l p=(l,p)
 | 0,_=>rfl
 | n+1,l=>by unfold altLoopI;rw [if_neg (by rw [h];simp)]
theorem zr21 {s:ByteArray}{a d v:Nat}{b:Bool}(hv:bAt s a=v):barI s ⟨a,d,b⟩=(!b&&(v==124)):=by unfold barI;rw [hv]
set_option maxHeartbeats 8000000 in
theorem alt_c {s:ByteArray}(hs:s.size≤1048576){cat:PS→E×PS}{p:PS}(hp:p.a≤s.size)(hd:p.d≤p.a)
 (hg:∀q,q.a≤s.size→q.d=p.d+1→p.a≤q.a→Good s q (cat q) 0 0 0)
 (hi:∀q,q.a≤s.size→q.d=p.d+1→p.a≤q.a→Ctr Tryz.prog 141 [.c (.pt 0 0)] [rdrI s q] (.ag (owE (cat q).1)) [rdrI s (cat q).2]) :
 Ctr Tryz.prog 132 [.c (.pt 0 0)] [rdrI s p] (.ag (owE (altB s cat p).1)) [rdrI s (altB s cat p).2]:=by
 obtain⟨a,d,b⟩:=p
 dsimp only at hp hd hg hi
 obtain⟨bb,hbb,hcase⟩:∃bb,(b||decide (40<d+1))=bb∧((40<d+1∧bb=true)∨(¬40<d+1∧bb=b)):=by
  by_cases h:40<d+1
  ·exact⟨true,by rw [decide_eq_true h,Bool.or_true],.inl ⟨h,rfl⟩⟩
  ·exact⟨b,by rw [decide_eq_false h,Bool.or_false],.inr ⟨h,rfl⟩⟩
 have hic:=hi ⟨a,d+1,bb⟩ hp rfl (Nat.le_refl _)
 obtain⟨g1,g2,g3,g4,g5⟩:=hg ⟨a,d+1,bb⟩ hp rfl (Nat.le_refl _)
 obtain⟨⟨e,q0⟩,hq0⟩:∃r,cat ⟨a,d+1,bb⟩=r:=⟨_,rfl⟩
 have htot0:altB s cat ⟨a,d,b⟩=(oneOr 5 (altLoopI s cat (s.size+1) [e] q0).1,⟨(altLoopI s cat (s.size+1) [e] q0).2.a,(altLoopI s cat (s.size+1) [e] q0).2.d-1,(altLoopI s cat (s.size+1) [e] q0).2.b⟩):=by
  unfold altB
  dsimp only
  rw [hbb,hq0]
 rw [htot0]
 clear htot0 hbb
 rw [hq0] at hic g1 g2 g3 g4 g5
 dsimp only at hic g1 g2 g3 g4 g5
 cases g1 with
 | mk k t l hk ht hl2 =>
 refine ze1 Tryz.func132 rfl rfl ?_
 unfold rdrI at hic ⊢
 dsimp only at hic ⊢
 repeat' (first|(apply f_wo;first|(apply f_mv;refine zv (v:=.c _) ?_)|(apply f_fa;refine n_fa ?_)|(apply f_ld;refine zn1 ?_)|(apply f_st;refine n_st ?_)|(apply zn3;refine za2 ?_)|(apply zd2;refine zj1 ?_)|refine n_al ?_|refine zz1 ?_)|(apply f_w;first|refine zj ?_|refine zb ?_)|refine za fun C=>?_|refine zd ?_)
 rcases hcase with ⟨h40,rfl⟩|⟨h40,rfl⟩
 all_goals first
  | refine zi (by rfl) (fun hC=>?_) fun hC=>absurd (of_decide_eq_false hC) (Decidable.not_not.2 (by omega))
  | refine zi (by rfl) (fun hC=>absurd (of_decide_eq_true hC) (by omega)) fun hC=>?_
 all_goals
  repeat' (first|(apply f_wo;first|(apply f_mv;refine zv (v:=.c _) ?_)|(apply f_as;refine zq (v:=.c _) ?_)|(apply f_fa;refine n_fa ?_)|(apply f_ca;refine zh2 0 (hic) ?_)|(apply f_st;refine n_st ?_)|refine n_bs ?_|refine zz1 ?_)|(apply f_w;first|refine zj ?_|refine zb ?_)|refine za fun C=>?_|refine zd ?_|refine ze ?_|refine zg ?_)
  refine zv1 (fun q:List E×PS=>⟨tmsF [(0,.c (.pt 0 0)),(2,.c (.pt 2 0)),(3,.c (.sl 9 q.1.length))],hpsF [(0,0,⟨0,0,0,true,rdrI s q.2⟩),(2,2,⟨140,0,0,true,[.v (.int .i64 0),.v (.string ByteArray.empty),.v (.slice none 0 0)]⟩),(9,9,⟨140,3,q.1.length,false,owL q.1⟩)],1,[0,2,9],59⟩)
   (fun N q=>GoodL s ⟨a,d+1,true⟩ q.1 q.2 1∧0<q.1.length∧s.size+1≤q.2.a+N∧altLoopI s cat N q.1 q.2=altLoopI s cat (s.size+1) [rexE k t l] q0) (s.size+1) ([rexE k t l],q0) ⟨⟨fun x hx=>by obtain rfl:=List.mem_singleton.1 hx;exact .mk k t l hk ht hl2,by dsimp only;omega,g3,g4,by dsimp only;rw [List.length_singleton];omega,by dsimp only;simp only [E.szL,List.length_singleton];omega⟩,by simp,by dsimp only;omega,rfl⟩ ?_ ?_
  ·refine (zk8 (i:=21) (j:=2100) rfl rfl rfl (pre:=[_,_]) (post:=[]) rfl).trans ?_
   (refine zi6 (fun j=>if j=9 then 21 else j) _ _ rfl rfl ?_ ?_<;>(repeat' (first|exact TmOk.nil|exact RwOk.nil|refine TmOk.cons ?_ ?_|refine RwOk.cons ?_ ?_|rfl|(refine rnV_id' rfl ?_;exact byc)|(refine zp1 ?_;first|rfl|omega|(rw [zw (by omega) (by omega)];omega))|(refine zb1 rfl ?_;exact byc)|exact zc2 rfl rfl|(refine zq1 (by rfl) (by rfl) ?_ ?_<;>exact byc)|(refine rw_rn' rfl rfl ?_;simp;done))))
  rintro N ⟨L,q⟩ ⟨hgl,hL0,hN,htot⟩
  dsimp only at hgl hL0 hN htot ⊢
  obtain⟨k1,k2,k3,k4,k5,k6⟩:=hgl
  have hnx:=zu12 hs (p:=q)
  obtain⟨M,rfl⟩:∃M,N=M+1:=⟨N-1,by omega⟩
  obtain⟨qa,qd,qb⟩:=q
  obtain⟨v,hv⟩:∃v,bAt s qa=v:=⟨_,rfl⟩
  have hnx:Ctr Tryz.prog 142 [.c (.pt 0 0)] [rdrI s ⟨qa,qd,qb⟩] (.c (.v (.int .u8 (v:Int)))) [rdrI s ⟨qa,qd,qb⟩]:=by rw [←hv];exact hnx
  have hbar:=zr21 (d:=qd) (b:=qb) hv
  dsimp only at k2 k3 k4 k5 k6 hN
  cases hgo:barI s ⟨qa,qd,qb⟩ with
  | true =>
   rw [hgo] at hbar
   have hgo2:=hbar.symm
   simp only [Bool.and_eq_true,Bool.not_eq_true',beq_iff_eq] at hgo2
   obtain⟨rfl,rfl⟩:=hgo2
   have hlt:qa<s.size:=zq3 (by rw [hv];decide)
   have hst:altLoopI s cat (M+1) L ⟨qa,qd,false⟩=altLoopI s cat M (L++[(cat ⟨qa+1,qd,false⟩).1]) (cat ⟨qa+1,qd,false⟩).2:=by
    show (if barI s ⟨qa,qd,false⟩ then _ else _)=_
    rw [if_pos hgo];rfl
   rw [hst] at htot
   have hic2:=hi ⟨qa+1,qd,false⟩ (by dsimp only;omega) k4 (by dsimp only;omega)
   obtain⟨e1,e2,e3,e4,e5⟩:=hg ⟨qa+1,qd,false⟩ (by dsimp only;omega) k4 (by dsimp only;omega)
   clear hst hi hg hic
   obtain⟨⟨e',q2⟩,hq2⟩:∃r,cat ⟨qa+1,qd,false⟩=r:=⟨_,rfl⟩
   rw [hq2] at hic2 htot e1 e2 e3 e4 e5
   dsimp only at hic2 htot e1 e2 e3 e4 e5
   cases e1 with
   | mk k' t' l' hk' ht' hl2' =>
   unfold rdrI at hnx hic2 ⊢
   dsimp only at hnx hic2 ⊢
   repeat' (first|(apply f_wo;first|(apply f_mv;first|(refine zx1 ?_ ?_<;>intro hG<;>(try cases hG))|refine zv (v:=.c _) ?_)|(apply f_as;refine zq (v:=.c _) ?_)|(apply f_fa;refine n_fa ?_)|(apply f_ld;refine zn1 ?_)|(apply f_ca;first|refine zh2 0 (hnx) ?_|refine zh2 0 (hic2) ?_)|(apply f_bi;refine zj17 ?_)|(apply f_st;refine n_st ?_)|(apply zr1;refine zv2 ?_)|(apply zd2;refine zj1 ?_)|(apply f_no;refine zu2 ?_)|(apply f_pk;refine zw1 (v:=.c _) ?_)|refine n_bs ?_|refine zz1 ?_)|(apply f_w;first|refine zj ?_|refine zb ?_)|refine za fun C=>?_|refine zd ?_|refine ze ?_|refine zg ?_|refine za1 rfl ?_)
   refine⟨M,(L++[rexE k' t' l'],q2),by omega,⟨⟨fun x hx=>?_,?_,e3,?_,?_,?_⟩,?_,?_,htot⟩,?_⟩
   ·rcases List.mem_append.1 hx with hx|hx
    ·exact k1 x hx
    ·obtain rfl:=List.mem_singleton.1 hx;exact .mk k' t' l' hk' ht' hl2'
   ·dsimp only;omega
   ·dsimp only;omega
   ·dsimp only;rw [List.length_append,List.length_singleton];omega
   ·dsimp only;rw [zw7,List.length_append,List.length_singleton];omega
   ·dsimp only;rw [List.length_append,List.length_singleton];omega
   ·dsimp only;omega
   ·dsimp only
    rw [List.length_append,List.length_singleton]
    refine (zk8 (i:=43) (j:=4200) rfl rfl rfl (pre:=owL L++[.v (.int .i64 k'),.v (.string t')]) (post:=[]) (by rw [List.append_assoc];rfl)).trans ?_
    (refine zi6 (fun j=>if j=9 then 43 else j) _ _ rfl rfl ?_ ?_<;>(repeat' (first|exact TmOk.nil|exact RwOk.nil|refine TmOk.cons ?_ ?_|refine RwOk.cons ?_ ?_|rfl|(refine rnV_id' rfl ?_;exact byc)|(refine zp1 ?_;first|rfl|omega|(rw [zw (by omega) (by omega)];omega))|(refine zb1 rfl ?_;exact byc)|exact zc2 rfl rfl|(refine zq1 (by rfl) (by rfl) ?_ ?_<;>exact byc)|(refine rw_rn' rfl rfl ?_;simp;done))))
    exact zh17 (r:=⟨140,3,L.length+1,false,(owL L++[.v (.int .i64 k'),.v (.string t')])++[.ow 140 l'.length 3 (owL l')]⟩) rfl (by rw [zh6,List.append_assoc];rfl) (by first|rfl|(simp [cloV,cloL,clo,zc1,zk,zd1,zo,zt];done))
  | false =>
   rw [zy17 hgo] at htot
   rw [←htot]
   rw [hgo] at hbar
   clear htot hi hg hic
   have hbar':qb=true∨v≠124:=by
    cases qb with
    | true=>exact .inl rfl
    | false=>right;simp at hbar;exact hbar
   have hqd:((qd:Nat):Int)-1=((qd-1:Nat):Int):=by omega
   unfold rdrI at hnx ⊢
   dsimp only at hnx ⊢
   match L,k1,hL0 with
   | [],_,h0=>exact absurd h0 (by simp)
   | [x],hf,_ =>
    have hx:=hf x (List.mem_singleton.2 rfl)
    cases hx with
    | mk k' t' l' hk' ht' hl2' =>
    cases qb<;>repeat' (first|(apply f_wo;first|(apply f_gs;refine n_sk ?_)|(apply f_mv;first|(refine zx1 ?_ ?_<;>intro hG<;>(try cases hG))|refine zv (v:=.c _) ?_)|(apply f_fa;refine n_fa ?_)|(apply f_ld;refine zn1 ?_)|(apply f_ca;refine zh2 0 (hnx) ?_)|(apply zr1;refine zv2 ?_)|(apply f_no;refine zu2 ?_)|(apply f_pk;refine zw1 (v:=.c _) ?_)|refine zz1 ?_)|(apply f_w;first|refine zj ?_|refine zb ?_)|refine za fun C=>?_|refine zd ?_)
    all_goals first
     | refine zf1 rfl ?_
     | refine zi (by rfl) (fun hC=>by exfalso;clear hnx;simp only [beq_iff_eq,Bool.false_eq_true,false_or] at *;omega) fun hC=>?_
    all_goals
     refine zk3 (g_rev 800 (i:=9) rfl rfl (pre:=[.v (.int .i64 k'),.v (.string t')]) (post:=[]) rfl) ?_
     repeat' (first|(apply f_wo;first|(apply f_mv;refine zv (v:=.c _) ?_)|(apply f_fa;refine n_fa ?_)|(apply f_ld;first|refine zn1 ?_|refine zs2 ?_)|(apply f_bi;refine zj6 ?_)|(apply f_st;refine n_st ?_)|(apply f_ia;refine zk17 ?_)|(apply zr1;refine zm ?_)|(apply f_bb;refine zq7 ?_)|refine zz1 ?_)|(apply f_w;first|refine zj ?_|refine zb ?_)|refine za fun C=>?_|refine zd ?_|refine zu ?_|refine za1 rfl ?_)
     refine zh ?_;refine ret1 rfl (zt2 (zg2 rfl (zg2 rfl (zp2 rfl rfl rfl (by first|exact zo _|exact zk _|exact bytC_clo _|(simp [cloL,clo,zo,zk,zd1,zc1,zt];done)|(simp [cloL,clo,opC,opL,zo,zk,zd1,zc1,zt];done)) zf2)))) rfl (by first|rfl|(simp [cloL,clo,zo,zk,zd1,zc1,zt];done)) rfl ⟨?_,?_⟩
     ·rfl
     ·rw [←hqd];rfl
   | x :: y :: r,hf,_ =>
    have hlen:(x :: y :: r).length=r.length+2:=rfl
    cases qb<;>repeat' (first|(apply f_wo;first|(apply f_gs;refine n_sk ?_)|(apply f_mv;first|(refine zx1 ?_ ?_<;>intro hG<;>(try cases hG))|refine zv (v:=.c _) ?_)|(apply f_fa;refine n_fa ?_)|(apply f_ld;refine zn1 ?_)|(apply f_ca;refine zh2 0 (hnx) ?_)|(apply zr1;refine zv2 ?_)|(apply f_no;refine zu2 ?_)|(apply f_pk;refine zw1 (v:=.c _) ?_)|refine zz1 ?_)|(apply f_w;first|refine zj ?_|refine zb ?_)|refine za fun C=>?_|refine zd ?_)
    all_goals first
     | refine zf1 rfl ?_
     | refine zi (by rfl) (fun hC=>by exfalso;clear hnx;simp only [beq_iff_eq,Bool.false_eq_true,false_or] at *;omega) fun hC=>?_
    all_goals
     repeat' (first|(apply f_wo;first|(apply f_mv;refine zv (v:=.c _) ?_)|(apply f_fa;refine n_fa ?_)|(apply f_ld;refine zn1 ?_)|(apply f_bi;refine zj6 ?_)|(apply f_st;refine n_st ?_)|(apply zr1;refine zm ?_)|(apply f_bb;refine zq7 ?_)|refine zz1 ?_)|(apply f_w;first|refine zj ?_|refine zb ?_)|refine za fun C=>?_|refine zd ?_|refine zu ?_)
     refine zi (by rfl) (fun hC=>by exfalso;simp at hC;omega) fun hC=>?_
     repeat' (first|(apply f_wo;first|(apply f_mv;refine zv (v:=.c _) ?_)|(apply f_st;refine n_st ?_)|refine zz1 ?_)|(apply f_w;first|refine zj ?_|refine zb ?_)|refine za fun C=>?_|refine zd ?_|refine zg ?_)
     refine zh ?_;refine ret1 rfl (zt2 (zg2 rfl (zg2 rfl (zp2 rfl rfl rfl (by first|exact zo _|exact zk _|exact bytC_clo _|(simp [cloL,clo,zo,zk,zd1,zc1,zt];done)|(simp [cloL,clo,opC,opL,zo,zk,zd1,zc1,zt];done)) zf2)))) rfl (by first|rfl|(simp [cloL,clo,zo,zk,zd1,zc1,zt];done)) rfl ⟨?_,?_⟩
     ·rfl
     ·rw [←hqd];rfl
end Go.Proofs.YtnjfnhoipnbpeaaGreatDoor
