/- The program's rexParts: by the abstract machine: the switch kind by kind, the loop once. -/
import Derived.Test.YtghljnfbbaklnaaGreatPutModuleU
namespace Go.Proofs.YtghljnfbbaklnaaGreat
open Go.RowKit
set_option maxRecDepth 100000
theorem za20 {l:List E}{y:E}(h1:l.length=1)(h2:l[0]? = some y):l=[y]:=by
 match l,h1,h2 with
 | [z],_,h2=>simpa using h2
theorem zb20 {x0:Int}{x1:ByteArray}{l:List E}(h:∀k:Int,1≤k→k≤11→x0≠k):headR x0 x1 l=false:=by
 unfold headR
 have h1:=h 1 (by omega) (by omega);have h2:=h 2 (by omega) (by omega);have h3:=h 3 (by omega) (by omega);have h4:=h 4 (by omega) (by omega);have h5:=h 5 (by omega) (by omega);have h6:=h 6 (by omega) (by omega)
 have h7:=h 7 (by omega) (by omega);have h8:=h 8 (by omega) (by omega);have h9:=h 9 (by omega) (by omega);have h10:=h 10 (by omega) (by omega);have h11:=h 11 (by omega) (by omega)
 simp [h1,h2,h3,h4,h5,h6,h7,h8,h9,h10,h11]
set_option maxHeartbeats 8000000 in
theorem zh21 {f:Nat}(ih:∀(e:E) (deep:Nat),e.Ty Tryz.prog 208→e.sz≤4194304→deep+f=7→Ctr Tryz.prog 208 [.ag (acE e),.c (.v (.int .i64 (deep:Int)))] [] (.c (.v (.int .i64 ((partsI f e:Nat):Int)))) [])(e:E)(deep:Nat)(he:e.Ty Tryz.prog 208)(hsz:e.sz≤4194304)(hd:deep+(f+1)=7):Ctr Tryz.prog 208 [.ag (acE e),.c (.v (.int .i64 (deep:Int)))] [] (.c (.v (.int .i64 ((partsI (f+1) e:Nat):Int)))) []:=by
 obtain⟨x0,x1,x2A,x2c,l,rfl,gx0,gx1,gx2,-⟩:=zy1 he
 simp only [E.sz,E.szL] at hsz
 have hl:l.length≤4194304:=by omega
 refine zo2 Tryz.func208 rfl rfl ?_
 repeat' (first|(apply f_wo;first|(apply f_gs;refine n_sk ?_)|(apply f_mv;first|(refine zb2 ?_ ?_<;>intro hG<;>(try cases hG))|refine zj1 (v:=.c _) ?_|refine za ?_)|(apply f_as;first|refine zi1 (v:=.c _) ?_|refine za ?_)|(apply f_fa;first|refine n_fa ?_|refine zm1 ?_)|(apply f_ld;first|refine zq1 ?_|refine zx ?_|refine zw ?_|refine zo1 ?_|refine n_ld ?_)|(apply f_bi;first|refine zb1 ?_|refine za1 ?_|refine zc1 ?_|refine za ?_)|(apply f_st;first|refine n_st ?_|refine zx1 ?_)|(apply f_ia;first|refine n_ix ?_|refine zz1 ?_|refine za ?_)|(apply ze2;first|refine zy ?_|refine zw4 ?_|refine za ?_)|(apply zw1;first|refine zl ?_|refine za ?_)|(apply zx3;first|refine zr1 ?_|refine za ?_)|(apply za4;first|refine zs1 ?_|refine za ?_)|(apply zu1;first|refine zk ?_|refine zt1 ?_|refine za ?_)|(apply f_no;first|refine zh2 ?_|refine za ?_)|(apply f_pk;first|refine za2 (v:=.c _) ?_|refine za ?_)|refine n_al ?_|refine n_bo ?_|refine zg4 ?_|refine za ?_)|(apply f_w;first|refine zv ?_|refine zc ?_)|refine zb fun C=>?_|refine zk14 ?_|refine zf ?_|refine zg ?_)
 refine zh ?_
 repeat' (first|(apply f_wo;first|(apply f_gs;refine n_sk ?_)|(apply f_mv;first|(refine zb2 ?_ ?_<;>intro hG<;>(try cases hG))|refine zj1 (v:=.c _) ?_|refine za ?_)|(apply f_as;first|refine zi1 (v:=.c _) ?_|refine za ?_)|(apply f_fa;first|refine n_fa ?_|refine zm1 ?_)|(apply f_ld;first|refine zq1 ?_|refine zx ?_|refine zw ?_|refine zo1 ?_|refine n_ld ?_)|(apply f_bi;first|refine zb1 ?_|refine za1 ?_|refine zc1 ?_|refine za ?_)|(apply f_st;first|refine n_st ?_|refine zx1 ?_)|(apply f_ia;first|refine n_ix ?_|refine zz1 ?_|refine za ?_)|(apply ze2;first|refine zy ?_|refine zw4 ?_|refine za ?_)|(apply zw1;first|refine zl ?_|refine za ?_)|(apply zx3;first|refine zr1 ?_|refine za ?_)|(apply za4;first|refine zs1 ?_|refine za ?_)|(apply zu1;first|refine zk ?_|refine zt1 ?_|refine za ?_)|(apply f_no;first|refine zh2 ?_|refine za ?_)|(apply f_pk;first|refine za2 (v:=.c _) ?_|refine za ?_)|refine n_al ?_|refine n_bo ?_|refine zg4 ?_|refine za ?_)|(apply f_w;first|refine zv ?_|refine zc ?_)|refine zb fun C=>?_|refine zk14 ?_|refine zf ?_|refine zg ?_)
 refine zd4 (by rfl) (fun h=>by simp at h;omega) fun h=>?_
 refine zf ?_
 repeat' (first|(apply f_wo;first|(apply f_gs;refine n_sk ?_)|(apply f_mv;first|(refine zb2 ?_ ?_<;>intro hG<;>(try cases hG))|refine zj1 (v:=.c _) ?_|refine za ?_)|(apply f_as;first|refine zi1 (v:=.c _) ?_|refine za ?_)|(apply f_fa;first|refine n_fa ?_|refine zm1 ?_)|(apply f_ld;first|refine zq1 ?_|refine zx ?_|refine zw ?_|refine zo1 ?_|refine n_ld ?_)|(apply f_bi;first|refine zb1 ?_|refine za1 ?_|refine zc1 ?_|refine za ?_)|(apply f_st;first|refine n_st ?_|refine zx1 ?_)|(apply f_ia;first|refine n_ix ?_|refine zz1 ?_|refine za ?_)|(apply ze2;first|refine zy ?_|refine zw4 ?_|refine za ?_)|(apply zw1;first|refine zl ?_|refine za ?_)|(apply zx3;first|refine zr1 ?_|refine za ?_)|(apply za4;first|refine zs1 ?_|refine za ?_)|(apply zu1;first|refine zk ?_|refine zt1 ?_|refine za ?_)|(apply f_no;first|refine zh2 ?_|refine za ?_)|(apply f_pk;first|refine za2 (v:=.c _) ?_|refine za ?_)|refine n_al ?_|refine n_bo ?_|refine zg4 ?_|refine za ?_)|(apply f_w;first|refine zv ?_|refine zc ?_)|refine zb fun C=>?_|refine zk14 ?_|refine zf ?_|refine zg ?_)
 refine awp_join ⟨tmsF [(1,.c (.v (.int .i64 (deep:Int)))),(2,.c (.pt 2 0)),(5,.c (.v (.bool (headI (E.agg [.int .i64 x0,.str x1,.lst 3 208 x2A x2c l])))))],hpsF [(2,2,⟨208,0,0,true,[.v (.int .i64 x0),.v (.string x1),.ro l.length 3 (acL l)]⟩)],0,[2],115⟩ ?_ ?_
 ·have c1:=setOk_c (s:=x1) (by omega)
  have c2:=zi12 (zw8 x1 0)
  have c3:=con1Rex_c gx2.1 gx2.2 (by omega) (b:=[.v (.int .i64 x0),.v (.string x1),.ro l.length 3 (acL l)]) (by simp [cloL,clo,zo]) (fun x=>x.rk==x0) 219 (fun x hx=>cloRex_c (gx2.1 x hx) x0 rfl (by simp [clo,zo]))
  rw [zz14]
  clear ih he
  by_cases hin:x0=1∨x0=2∨x0=3∨x0=4∨x0=5∨x0=9∨x0=10∨x0=11
  ·rcases hin with rfl|rfl|rfl|rfl|rfl|rfl|rfl|rfl
   all_goals
    repeat' (first|(apply f_wo;first|(apply f_gs;refine n_sk ?_)|(apply f_mv;first|(refine zb2 ?_ ?_<;>intro hG<;>(try cases hG))|refine zj1 (v:=.c _) ?_|refine za ?_)|(apply f_as;first|refine zi1 (v:=.c _) ?_|refine za ?_)|(apply f_fa;first|refine n_fa ?_|refine zm1 ?_)|(apply f_ld;first|refine zq1 ?_|refine zx ?_|refine zw ?_|refine zo1 ?_|refine n_ld ?_)|(apply f_ca;first|refine zz2 c1 ?_|refine zx2 c1 ?_|refine zz2 c2 ?_|refine zx2 c2 ?_|refine zz2 ((zd6 _ _ _)) ?_|refine zx2 ((zd6 _ _ _)) ?_|refine za3 2 (c3) ?_)|(apply f_bi;first|refine zb1 ?_|refine za1 ?_|refine zc1 ?_|refine za ?_)|(apply f_st;first|refine n_st ?_|refine zx1 ?_)|(apply f_ia;first|refine n_ix ?_|refine zz1 ?_|refine za ?_)|(apply ze2;first|refine zy ?_|refine zw4 ?_|refine za ?_)|(apply zw1;first|refine zl ?_|refine za ?_)|(apply zx3;first|refine zr1 ?_|refine za ?_)|(apply za4;first|refine zs1 ?_|refine za ?_)|(apply zu1;first|refine zk ?_|refine zt1 ?_|refine za ?_)|(apply f_no;first|refine zh2 ?_|refine za ?_)|(apply f_pk;first|refine za2 (v:=.c _) ?_|refine za ?_)|refine n_al ?_|refine n_bo ?_|refine zg4 ?_|refine za ?_)|(apply f_w;first|refine zv ?_|refine zc ?_)|refine zb fun C=>?_|refine zh ?_|refine zd ?_|refine zf ?_|refine zg ?_|(refine zn (by rfl) ?_ ?_<;>intro hC<;>(try cases hC)))
   all_goals
    (show Gh _ _
     refine zr2 _ _ rfl rfl (TmOk.cons rfl (TmOk.cons rfl (TmOk.cons (zl14 rfl (Lib.hid ?_)) TmOk.nil))) (RwOk.cons (zl1 rfl ?_) RwOk.nil)
     ·unfold headR
      clear c1 c2 c3 gx0 gx1 gx2 hsz hl hd h
      (try simp only [zy14,ib0,ib1,inR28] at *)
      first
       | (simp_all;done)
       | (simp_all;intros;omega)
     ·simp [cloL,clo,zo])
  ·by_cases hlp:x0=6∨x0=7∨x0=8
   ·by_cases hl1:l.length=1
    ·obtain⟨y,hy⟩:∃y,l[0]? = some y:=⟨_,List.getElem?_eq_getElem (by omega)⟩
     have hgk:=gx2.2
     have hyt:=gx2.1 y (List.mem_of_getElem? hy)
     have c4:=isLoop_c hyt
     have hl2:=za20 hl1 hy
     obtain⟨y0,y1,y2A,y2c,y2l,rfl,gy0,gy1,gy2,-⟩:=zy1 hyt
     have hh:headR x0 x1 l=(x1.size==0&&!(loopK y0)):=by
      rw [hl2]
      unfold headR
      rcases hlp with rfl|rfl|rfl<;>simp [E.rk]
     have hh2:(headR x0 x1 l&&!((x0==4||x0==5)&&l.any fun x=>x.rk==x0))=(x1.size==0&&!(loopK y0)):=by
      rw [hh]
      rcases hlp with rfl|rfl|rfl<;>simp
     rw [hh2]
     clear hh hh2 c1 c2 c3
     rcases hlp with rfl|rfl|rfl
     all_goals
      repeat' (first|(apply f_wo;first|(apply f_gs;refine n_sk ?_)|(apply f_mv;first|(refine zb2 ?_ ?_<;>intro hG<;>(try cases hG))|refine zj1 (v:=.c _) ?_|refine za ?_)|(apply f_as;first|refine zi1 (v:=.c _) ?_|refine za ?_)|(apply f_fa;first|refine n_fa ?_|refine zm1 ?_)|(apply f_ld;first|refine zq1 ?_|refine zx ?_|refine zw ?_|refine zo1 ?_|refine n_ld ?_)|(apply f_ca;first|refine zz2 c4 ?_|refine zx2 c4 ?_)|(apply f_bi;first|refine zb1 ?_|refine za1 ?_|refine zc1 ?_|refine za ?_)|(apply f_st;first|refine n_st ?_|refine zx1 ?_)|(apply f_ia;first|refine n_ix ?_|refine zz1 ?_|refine za ?_)|(apply ze2;first|refine zy ?_|refine zw4 ?_|refine za ?_)|(apply zw1;first|refine zl ?_|refine za ?_)|(apply zx3;first|refine zr1 ?_|refine za ?_)|(apply za4;first|refine zs1 ?_|refine za ?_)|(apply zu1;first|refine zk ?_|refine zt1 ?_|refine za ?_)|(apply f_no;first|refine zh2 ?_|refine za ?_)|(apply f_pk;first|refine za2 (v:=.c _) ?_|refine za ?_)|refine n_al ?_|refine n_bo ?_|refine zg4 ?_|refine za ?_)|(apply f_w;first|refine zv ?_|refine zc ?_)|refine zb fun C=>?_|refine zh ?_|refine zd ?_|refine zf ?_|refine zg ?_|(refine zn (by rfl) ?_ ?_<;>intro hC<;>(try cases hC)))
     all_goals first
      | (exfalso;simp [hl1] at hG;done)
      | (show Gh _ _
         refine zr2 _ _ rfl rfl (TmOk.cons rfl (TmOk.cons rfl (TmOk.cons (zl14 rfl (Lib.hid ?_)) TmOk.nil))) (RwOk.cons (zl1 rfl ?_) RwOk.nil)
         ·clear c4 gx0 gx1 gx2 gy0 gy1 gy2 hsz hl hd h hgk hyt
          (try simp only [E.rk,zy14,ib0,ib1,inR28] at *)
          first
           | (simp_all;done)
           | (simp_all;intros;omega)
         ·simp [cloL,clo,zo])
    ·have hh:(headR x0 x1 l&&!((x0==4||x0==5)&&l.any fun x=>x.rk==x0))=false:=by
      unfold headR
      rcases hlp with rfl|rfl|rfl<;>simp [hl1]
     have hl1':((l.length:Int)==1)=false:=by rw [ib1];simpa using hl1
     rw [hh]
     clear hh c1 c2 c3
     rcases hlp with rfl|rfl|rfl
     all_goals
      repeat' (first|(apply f_wo;first|(apply f_gs;refine n_sk ?_)|(apply f_mv;first|(refine zb2 ?_ ?_<;>intro hG<;>(try cases hG))|refine zj1 (v:=.c _) ?_|refine za ?_)|(apply f_as;first|refine zi1 (v:=.c _) ?_|refine za ?_)|(apply f_fa;first|refine n_fa ?_|refine zm1 ?_)|(apply f_ld;first|refine zq1 ?_|refine zx ?_|refine zw ?_|refine zo1 ?_|refine n_ld ?_)|(apply f_bi;first|refine zb1 ?_|refine za1 ?_|refine zc1 ?_|refine za ?_)|(apply f_st;first|refine n_st ?_|refine zx1 ?_)|(apply f_ia;first|refine n_ix ?_|refine zz1 ?_|refine za ?_)|(apply ze2;first|refine zy ?_|refine zw4 ?_|refine za ?_)|(apply zw1;first|refine zl ?_|refine za ?_)|(apply zx3;first|refine zr1 ?_|refine za ?_)|(apply za4;first|refine zs1 ?_|refine za ?_)|(apply zu1;first|refine zk ?_|refine zt1 ?_|refine za ?_)|(apply f_no;first|refine zh2 ?_|refine za ?_)|(apply f_pk;first|refine za2 (v:=.c _) ?_|refine za ?_)|refine n_al ?_|refine n_bo ?_|refine zg4 ?_|refine za ?_)|(apply f_w;first|refine zv ?_|refine zc ?_)|refine zb fun C=>?_|refine zh ?_|refine zd ?_|refine zf ?_|refine zg ?_|(refine zn (by rfl) ?_ ?_<;>intro hC<;>(try cases hC)))
     all_goals first
      | (exfalso;rw [hl1'] at hG;cases hG;done)
      | (show Gh _ _
         refine zr2 _ _ rfl rfl (TmOk.cons rfl (TmOk.cons rfl (TmOk.cons (zl14 rfl (Lib.hid ?_)) TmOk.nil))) (RwOk.cons (zl1 rfl ?_) RwOk.nil)
         ·first
           | rfl
           | simp_all
         ·simp [cloL,clo,zo])
   ·have hk:∀k:Int,1≤k→k≤11→x0≠k:=fun k g1 g2 g3=>by omega
    rw [zb20 hk,Bool.false_and]
    clear c1 c2 c3
    repeat' (first|(apply f_wo;first|(apply f_gs;refine n_sk ?_)|(apply f_mv;first|(refine zb2 ?_ ?_<;>intro hG<;>(try cases hG))|refine zj1 (v:=.c _) ?_|refine za ?_)|(apply f_as;first|refine zi1 (v:=.c _) ?_|refine za ?_)|(apply f_fa;first|refine n_fa ?_|refine zm1 ?_)|(apply f_ld;first|refine zq1 ?_|refine zx ?_|refine zw ?_|refine zo1 ?_|refine n_ld ?_)|(apply f_bi;first|refine zb1 ?_|refine za1 ?_|refine zc1 ?_|refine za ?_)|(apply f_st;first|refine n_st ?_|refine zx1 ?_)|(apply f_ia;first|refine n_ix ?_|refine zz1 ?_|refine za ?_)|(apply ze2;first|refine zy ?_|refine zw4 ?_|refine za ?_)|(apply zw1;first|refine zl ?_|refine za ?_)|(apply zx3;first|refine zr1 ?_|refine za ?_)|(apply za4;first|refine zs1 ?_|refine za ?_)|(apply zu1;first|refine zk ?_|refine zt1 ?_|refine za ?_)|(apply f_no;first|refine zh2 ?_|refine za ?_)|(apply f_pk;first|refine za2 (v:=.c _) ?_|refine za ?_)|refine n_al ?_|refine n_bo ?_|refine zg4 ?_|refine za ?_)|(apply f_w;first|refine zv ?_|refine zc ?_)|refine zb fun C=>?_|refine zh ?_|refine zd ?_|refine zf ?_|refine zg ?_)
    iterate 15
     (first
       | refine zp rfl ?_
       | refine zn (by rfl) (fun hC=>absurd (eq_of_beq hC) (hk _ (by omega) (by omega))) fun hC=>?_
       | skip)<;>repeat' (first|(apply f_wo;first|(apply f_gs;refine n_sk ?_)|(apply f_mv;first|(refine zb2 ?_ ?_<;>intro hG<;>(try cases hG))|refine zj1 (v:=.c _) ?_|refine za ?_)|(apply f_as;first|refine zi1 (v:=.c _) ?_|refine za ?_)|(apply f_fa;first|refine n_fa ?_|refine zm1 ?_)|(apply f_ld;first|refine zq1 ?_|refine zx ?_|refine zw ?_|refine zo1 ?_|refine n_ld ?_)|(apply f_bi;first|refine zb1 ?_|refine za1 ?_|refine zc1 ?_|refine za ?_)|(apply f_st;first|refine n_st ?_|refine zx1 ?_)|(apply f_ia;first|refine n_ix ?_|refine zz1 ?_|refine za ?_)|(apply ze2;first|refine zy ?_|refine zw4 ?_|refine za ?_)|(apply zw1;first|refine zl ?_|refine za ?_)|(apply zx3;first|refine zr1 ?_|refine za ?_)|(apply za4;first|refine zs1 ?_|refine za ?_)|(apply zu1;first|refine zk ?_|refine zt1 ?_|refine za ?_)|(apply f_no;first|refine zh2 ?_|refine za ?_)|(apply f_pk;first|refine za2 (v:=.c _) ?_|refine za ?_)|refine n_al ?_|refine n_bo ?_|refine zg4 ?_|refine za ?_)|(apply f_w;first|refine zv ?_|refine zc ?_)|refine zb fun C=>?_|refine zh ?_|refine zd ?_|refine zf ?_|refine zg ?_)
    (show Gh _ _
     refine zr2 _ _ rfl rfl (TmOk.cons rfl (TmOk.cons rfl (TmOk.cons (zl14 rfl (Lib.hid ?_)) TmOk.nil))) (RwOk.cons (zl1 rfl ?_) RwOk.nil)
     ·rfl
     ·simp [cloL,clo,zo])
 ·cases hh:headI (E.agg [.int .i64 x0,.str x1,.lst 3 208 x2A x2c l]) with
  | false =>
   repeat' (first|(apply f_wo;first|(apply f_gs;refine n_sk ?_)|(apply f_mv;first|(refine zb2 ?_ ?_<;>intro hG<;>(try cases hG))|refine zj1 (v:=.c _) ?_|refine za ?_)|(apply f_as;first|refine zi1 (v:=.c _) ?_|refine za ?_)|(apply f_fa;first|refine n_fa ?_|refine zm1 ?_)|(apply f_ld;first|refine zq1 ?_|refine zx ?_|refine zw ?_|refine zo1 ?_|refine n_ld ?_)|(apply f_bi;first|refine zb1 ?_|refine za1 ?_|refine zc1 ?_|refine za ?_)|(apply f_st;first|refine n_st ?_|refine zx1 ?_)|(apply f_ia;first|refine n_ix ?_|refine zz1 ?_|refine za ?_)|(apply ze2;first|refine zy ?_|refine zw4 ?_|refine za ?_)|(apply zw1;first|refine zl ?_|refine za ?_)|(apply zx3;first|refine zr1 ?_|refine za ?_)|(apply za4;first|refine zs1 ?_|refine za ?_)|(apply zu1;first|refine zk ?_|refine zt1 ?_|refine za ?_)|(apply f_no;first|refine zh2 ?_|refine za ?_)|(apply f_pk;first|refine za2 (v:=.c _) ?_|refine za ?_)|refine n_al ?_|refine n_bo ?_|refine zg4 ?_|refine za ?_)|(apply f_w;first|refine zv ?_|refine zc ?_)|refine zb fun C=>?_|refine zh ?_|refine zd ?_|refine zf ?_|refine zg ?_|refine zt rfl ?_|refine zp rfl ?_)
   refine zu ?_
   refine ret0 (x:=.c (.v (.int .i64 61))) rfl zf3 ⟨?_,rfl⟩
   unfold partsI;rw [hh];rfl
  | true =>
   have hres:partsI (f+1) (E.agg [.int .i64 x0,.str x1,.lst 3 208 x2A x2c l])=sumI (partsI f) l 1:=by unfold partsI;rw [hh];rfl
   rw [hres]
   clear hres
   generalize hT:sumI (partsI f) l 1=tot
   repeat' (first|(apply f_wo;first|(apply f_gs;refine n_sk ?_)|(apply f_mv;first|(refine zb2 ?_ ?_<;>intro hG<;>(try cases hG))|refine zj1 (v:=.c _) ?_|refine za ?_)|(apply f_as;first|refine zi1 (v:=.c _) ?_|refine za ?_)|(apply f_fa;first|refine n_fa ?_|refine zm1 ?_)|(apply f_ld;first|refine zq1 ?_|refine zx ?_|refine zw ?_|refine zo1 ?_|refine n_ld ?_)|(apply f_bi;first|refine zb1 ?_|refine za1 ?_|refine zc1 ?_|refine za ?_)|(apply f_st;first|refine n_st ?_|refine zx1 ?_)|(apply f_ia;first|refine n_ix ?_|refine zz1 ?_|refine za ?_)|(apply ze2;first|refine zy ?_|refine zw4 ?_|refine za ?_)|(apply zw1;first|refine zl ?_|refine za ?_)|(apply zx3;first|refine zr1 ?_|refine za ?_)|(apply za4;first|refine zs1 ?_|refine za ?_)|(apply zu1;first|refine zk ?_|refine zt1 ?_|refine za ?_)|(apply f_no;first|refine zh2 ?_|refine za ?_)|(apply f_pk;first|refine za2 (v:=.c _) ?_|refine za ?_)|refine n_al ?_|refine n_bo ?_|refine zg4 ?_|refine za ?_)|(apply f_w;first|refine zv ?_|refine zc ?_)|refine zb fun C=>?_|refine zh ?_|refine zd ?_|refine zf ?_|refine zg ?_|refine zt rfl ?_|refine zp rfl ?_)
   refine ze3 (fun d:Nat×Nat=>⟨tmsF [(1,.c (.v (.int .i64 (deep:Int)))),(6,.c (.v (.int .i64 (d.2:Int)))),(99,.c (.ro l.length 3 (acL l))),(100,.c (.v (.int .i64 l.length))),(101,.c (.v (.int .i64 (d.1:Int))))],hpsF [],0,[],115⟩) (fun N d=>d.1+N=l.length∧d.2≤60∧sumI (partsI f) (l.drop d.1) d.2=tot) l.length (0,1) ⟨by simp,by simp,hT⟩ ?_ ?_
   ·(refine zr2 _ _ rfl rfl ?_ ?_<;>(repeat' (first|exact TmOk.nil|exact RwOk.nil|refine TmOk.cons ?_ ?_|refine RwOk.cons ?_ ?_|rfl|(refine rnV_id' rfl ?_;exact byc)|(refine zv2 ?_;first|rfl|omega|(rw [zv1 (by omega) (by omega)];omega))|(refine zl1 rfl ?_;exact byc)|exact zz3 rfl rfl|(refine zw2 (by rfl) (by rfl) ?_ ?_<;>exact byc)|(refine rw_rn' rfl rfl ?_;simp;done))))
   rintro N ⟨k,n⟩ ⟨hN,hn,hs⟩
   dsimp only at hN hn hs ⊢
   repeat' (first|(apply f_wo;first|(apply f_gs;refine n_sk ?_)|(apply f_mv;first|(refine zb2 ?_ ?_<;>intro hG<;>(try cases hG))|refine zj1 (v:=.c _) ?_|refine za ?_)|(apply f_as;first|refine zi1 (v:=.c _) ?_|refine za ?_)|(apply f_fa;first|refine n_fa ?_|refine zm1 ?_)|(apply f_ld;first|refine zq1 ?_|refine zx ?_|refine zw ?_|refine zo1 ?_|refine n_ld ?_)|(apply f_bi;first|refine zb1 ?_|refine za1 ?_|refine zc1 ?_|refine za ?_)|(apply f_st;first|refine n_st ?_|refine zx1 ?_)|(apply f_ia;first|refine n_ix ?_|refine zz1 ?_|refine za ?_)|(apply ze2;first|refine zy ?_|refine zw4 ?_|refine za ?_)|(apply zw1;first|refine zl ?_|refine za ?_)|(apply zx3;first|refine zr1 ?_|refine za ?_)|(apply za4;first|refine zs1 ?_|refine za ?_)|(apply zu1;first|refine zk ?_|refine zt1 ?_|refine za ?_)|(apply f_no;first|refine zh2 ?_|refine za ?_)|(apply f_pk;first|refine za2 (v:=.c _) ?_|refine za ?_)|refine n_al ?_|refine n_bo ?_|refine zg4 ?_|refine za ?_)|(apply f_w;first|refine zv ?_|refine zc ?_)|refine zb fun C=>?_|refine zh ?_|refine zd ?_|refine zf ?_|refine zg ?_)
   refine zn (by rfl) (fun h1=>?_) fun h1=>?_
   ·have hk:k<l.length:=by simpa using h1
    obtain⟨x,hx⟩:∃x,l[k]? = some x:=⟨_,List.getElem?_eq_getElem hk⟩
    have hxt:=gx2.1 x (List.mem_of_getElem? hx)
    have hxs:=E.szL_mem (List.mem_of_getElem? hx)
    have hc:=ih x (deep+1) hxt (by omega) (by omega)
    have hb:=partsI_le f x
    have hd1:l.drop k=x :: l.drop (k+1):=by rw [List.drop_eq_getElem_cons hk];congr 1;rw [List.getElem?_eq_getElem hk] at hx;exact Option.some.inj hx
    rw [hd1] at hs
    unfold sumI at hs
    have hgk:=gx2.2
    obtain⟨y0,y1,y2A,y2c,y2l,rfl,gy0,gy1,gy2,-⟩:=zy1 hxt
    repeat' (first|(apply f_wo;first|(apply f_gs;refine n_sk ?_)|(apply f_mv;first|(refine zb2 ?_ ?_<;>intro hG<;>(try cases hG))|refine zj1 (v:=.c _) ?_|refine za ?_)|(apply f_as;first|refine zi1 (v:=.c _) ?_|refine za ?_)|(apply f_fa;first|refine n_fa ?_|refine zm1 ?_)|(apply f_ld;first|refine zq1 ?_|refine zx ?_|refine zw ?_|refine zo1 ?_|refine n_ld ?_)|(apply f_ca;first|refine zz2 hc ?_|refine zx2 hc ?_)|(apply f_bi;first|refine zb1 ?_|refine za1 ?_|refine zc1 ?_|refine za ?_)|(apply f_st;first|refine n_st ?_|refine zx1 ?_)|(apply f_ia;first|refine n_ix ?_|refine zz1 ?_|refine za ?_)|(apply ze2;first|refine zy ?_|refine zw4 ?_|refine za ?_)|(apply zw1;first|refine zl ?_|refine za ?_)|(apply zx3;first|refine zr1 ?_|refine za ?_)|(apply za4;first|refine zs1 ?_|refine za ?_)|(apply zu1;first|refine zk ?_|refine zt1 ?_|refine za ?_)|(apply f_no;first|refine zh2 ?_|refine za ?_)|(apply f_pk;first|refine za2 (v:=.c _) ?_|refine za ?_)|refine n_al ?_|refine n_bo ?_|refine zg4 ?_|refine za ?_)|(apply f_w;first|refine zv ?_|refine zc ?_)|refine zb fun C=>?_|refine zh ?_|refine zd ?_|refine zf ?_|refine zg ?_)
    refine zn (by rfl) (fun h2=>?_) fun h2=>?_
    ·have h3:61≤n+partsI f (E.agg [.int .i64 y0,.str y1,.lst 3 208 y2A y2c y2l]):=by simp at h2;omega
     repeat' (first|(apply f_wo;first|(apply f_gs;refine n_sk ?_)|(apply f_mv;first|(refine zb2 ?_ ?_<;>intro hG<;>(try cases hG))|refine zj1 (v:=.c _) ?_|refine za ?_)|(apply f_as;first|refine zi1 (v:=.c _) ?_|refine za ?_)|(apply f_fa;first|refine n_fa ?_|refine zm1 ?_)|(apply f_ld;first|refine zq1 ?_|refine zx ?_|refine zw ?_|refine zo1 ?_|refine n_ld ?_)|(apply f_bi;first|refine zb1 ?_|refine za1 ?_|refine zc1 ?_|refine za ?_)|(apply f_st;first|refine n_st ?_|refine zx1 ?_)|(apply f_ia;first|refine n_ix ?_|refine zz1 ?_|refine za ?_)|(apply ze2;first|refine zy ?_|refine zw4 ?_|refine za ?_)|(apply zw1;first|refine zl ?_|refine za ?_)|(apply zx3;first|refine zr1 ?_|refine za ?_)|(apply za4;first|refine zs1 ?_|refine za ?_)|(apply zu1;first|refine zk ?_|refine zt1 ?_|refine za ?_)|(apply f_no;first|refine zh2 ?_|refine za ?_)|(apply f_pk;first|refine za2 (v:=.c _) ?_|refine za ?_)|refine n_al ?_|refine n_bo ?_|refine zg4 ?_|refine za ?_)|(apply f_w;first|refine zv ?_|refine zc ?_)|refine zb fun C=>?_|refine zh ?_|refine zd ?_|refine zf ?_|refine zg ?_|refine zt rfl ?_|refine zp rfl ?_)
     refine zu ?_
     refine ret0 (x:=.c (.v (.int .i64 61))) rfl zf3 ⟨?_,rfl⟩
     rw [if_pos h3] at hs
     rw [←hs];rfl
    ·have h3:¬61≤n+partsI f (E.agg [.int .i64 y0,.str y1,.lst 3 208 y2A y2c y2l]):=by simp at h2;omega
     rw [if_neg h3] at hs
     repeat' (first|(apply f_wo;first|(apply f_gs;refine n_sk ?_)|(apply f_mv;first|(refine zb2 ?_ ?_<;>intro hG<;>(try cases hG))|refine zj1 (v:=.c _) ?_|refine za ?_)|(apply f_as;first|refine zi1 (v:=.c _) ?_|refine za ?_)|(apply f_fa;first|refine n_fa ?_|refine zm1 ?_)|(apply f_ld;first|refine zq1 ?_|refine zx ?_|refine zw ?_|refine zo1 ?_|refine n_ld ?_)|(apply f_bi;first|refine zb1 ?_|refine za1 ?_|refine zc1 ?_|refine za ?_)|(apply f_st;first|refine n_st ?_|refine zx1 ?_)|(apply f_ia;first|refine n_ix ?_|refine zz1 ?_|refine za ?_)|(apply ze2;first|refine zy ?_|refine zw4 ?_|refine za ?_)|(apply zw1;first|refine zl ?_|refine za ?_)|(apply zx3;first|refine zr1 ?_|refine za ?_)|(apply za4;first|refine zs1 ?_|refine za ?_)|(apply zu1;first|refine zk ?_|refine zt1 ?_|refine za ?_)|(apply f_no;first|refine zh2 ?_|refine za ?_)|(apply f_pk;first|refine za2 (v:=.c _) ?_|refine za ?_)|refine n_al ?_|refine n_bo ?_|refine zg4 ?_|refine za ?_)|(apply f_w;first|refine zv ?_|refine zc ?_)|refine zb fun C=>?_|refine zh ?_|refine zd ?_|refine zf ?_|refine zg ?_|refine zt rfl ?_|refine zp rfl ?_)
     refine⟨N-1,(k+1,n+partsI f (E.agg [.int .i64 y0,.str y1,.lst 3 208 y2A y2c y2l])),by omega,⟨by dsimp only;omega,by dsimp only;omega,hs⟩,?_⟩
     (refine zr2 _ _ rfl rfl ?_ ?_<;>(repeat' (first|exact TmOk.nil|exact RwOk.nil|refine TmOk.cons ?_ ?_|refine RwOk.cons ?_ ?_|rfl|(refine rnV_id' rfl ?_;exact byc)|(refine zv2 ?_;first|rfl|omega|(rw [zv1 (by omega) (by omega)];omega))|(refine zl1 rfl ?_;exact byc)|exact zz3 rfl rfl|(refine zw2 (by rfl) (by rfl) ?_ ?_<;>exact byc)|(refine rw_rn' rfl rfl ?_;simp;done))))
   ·have hk:k=l.length:=by simp at h1;omega
    repeat' (first|(apply f_wo;first|(apply f_gs;refine n_sk ?_)|(apply f_mv;first|(refine zb2 ?_ ?_<;>intro hG<;>(try cases hG))|refine zj1 (v:=.c _) ?_|refine za ?_)|(apply f_as;first|refine zi1 (v:=.c _) ?_|refine za ?_)|(apply f_fa;first|refine n_fa ?_|refine zm1 ?_)|(apply f_ld;first|refine zq1 ?_|refine zx ?_|refine zw ?_|refine zo1 ?_|refine n_ld ?_)|(apply f_bi;first|refine zb1 ?_|refine za1 ?_|refine zc1 ?_|refine za ?_)|(apply f_st;first|refine n_st ?_|refine zx1 ?_)|(apply f_ia;first|refine n_ix ?_|refine zz1 ?_|refine za ?_)|(apply ze2;first|refine zy ?_|refine zw4 ?_|refine za ?_)|(apply zw1;first|refine zl ?_|refine za ?_)|(apply zx3;first|refine zr1 ?_|refine za ?_)|(apply za4;first|refine zs1 ?_|refine za ?_)|(apply zu1;first|refine zk ?_|refine zt1 ?_|refine za ?_)|(apply f_no;first|refine zh2 ?_|refine za ?_)|(apply f_pk;first|refine za2 (v:=.c _) ?_|refine za ?_)|refine n_al ?_|refine n_bo ?_|refine zg4 ?_|refine za ?_)|(apply f_w;first|refine zv ?_|refine zc ?_)|refine zb fun C=>?_|refine zh ?_|refine zd ?_|refine zf ?_|refine zg ?_|refine zt rfl ?_|refine zp rfl ?_)
    refine zu ?_
    refine ret0 (x:=.c (.v (.int .i64 (n:Int)))) rfl zf3 ⟨?_,rfl⟩
    rw [hk,List.drop_length] at hs
    rw [←hs];rfl
theorem zi21 (f:Nat):∀(e:E) (deep:Nat),e.Ty Tryz.prog 208→e.sz≤4194304→deep+f=7→Ctr Tryz.prog 208 [.ag (acE e),.c (.v (.int .i64 (deep:Int)))] [] (.c (.v (.int .i64 ((partsI f e:Nat):Int)))) []:=by
 induction f with
 | zero =>
  intro e deep he hsz hd
  obtain⟨x0,x1,x2A,x2c,l,rfl,gx0,gx1,gx2,-⟩:=zy1 he
  refine zo2 Tryz.func208 rfl rfl ?_
  obtain rfl:deep=7:=by omega
  repeat' (first|(apply f_wo;first|(apply f_gs;refine n_sk ?_)|(apply f_mv;first|(refine zb2 ?_ ?_<;>intro hG<;>(try cases hG))|refine zj1 (v:=.c _) ?_|refine za ?_)|(apply f_as;first|refine zi1 (v:=.c _) ?_|refine za ?_)|(apply f_fa;first|refine n_fa ?_|refine zm1 ?_)|(apply f_ld;first|refine zq1 ?_|refine zx ?_|refine zw ?_|refine zo1 ?_|refine n_ld ?_)|(apply f_bi;first|refine zb1 ?_|refine za1 ?_|refine zc1 ?_|refine za ?_)|(apply f_st;first|refine n_st ?_|refine zx1 ?_)|(apply f_ia;first|refine n_ix ?_|refine zz1 ?_|refine za ?_)|(apply ze2;first|refine zy ?_|refine zw4 ?_|refine za ?_)|(apply zw1;first|refine zl ?_|refine za ?_)|(apply zx3;first|refine zr1 ?_|refine za ?_)|(apply za4;first|refine zs1 ?_|refine za ?_)|(apply zu1;first|refine zk ?_|refine zt1 ?_|refine za ?_)|(apply f_no;first|refine zh2 ?_|refine za ?_)|(apply f_pk;first|refine za2 (v:=.c _) ?_|refine za ?_)|refine n_al ?_|refine n_bo ?_|refine zg4 ?_|refine za ?_)|(apply f_w;first|refine zv ?_|refine zc ?_)|refine zb fun C=>?_|refine zh ?_|refine zd ?_|refine zf ?_|refine zg ?_|refine zt rfl ?_|refine zp rfl ?_)
  refine zu ?_
  exact ret0 (x:=.c (.v (.int .i64 61))) rfl zf3 ⟨rfl,rfl⟩
 | succ f ih=>exact zh21 ih
end Go.Proofs.YtghljnfbbaklnaaGreat
