/- The program's rexParts: by the abstract machine: the switch kind by kind, the loop once. -/
import Derived.Test.YtghljnfbbaklnaaGreatGetModuleT
namespace Go.Proofs.YtghljnfbbaklnaaGreat
open Go.RowKit
set_option maxRecDepth 100000
theorem zr19 {l:List E}{y:E}(h1:l.length=1)(h2:l[0]? = some y):l=[y]:=by
 match l,h1,h2 with
 | [z],_,h2=>simpa using h2
theorem zs19 {x0:Int}{x1:ByteArray}{l:List E}(h:∀k:Int,1≤k→k≤11→x0≠k):headR x0 x1 l=false:=by
 unfold headR
 have h1:=h 1 (by omega) (by omega);have h2:=h 2 (by omega) (by omega);have h3:=h 3 (by omega) (by omega);have h4:=h 4 (by omega) (by omega);have h5:=h 5 (by omega) (by omega);have h6:=h 6 (by omega) (by omega)
 have h7:=h 7 (by omega) (by omega);have h8:=h 8 (by omega) (by omega);have h9:=h 9 (by omega) (by omega);have h10:=h 10 (by omega) (by omega);have h11:=h 11 (by omega) (by omega)
 simp [h1,h2,h3,h4,h5,h6,h7,h8,h9,h10,h11]
set_option maxHeartbeats 8000000 in
theorem zg21 {f:Nat}(ih:∀(e:E) (deep:Nat),e.Ty Tryz.prog 208→e.sz≤4194304→deep+f=7→Ctr Tryz.prog 208 [.ag (acE e),.c (.v (.int .i64 (deep:Int)))] [] (.c (.v (.int .i64 ((partsI f e:Nat):Int)))) [])(e:E)(deep:Nat)(he:e.Ty Tryz.prog 208)(hsz:e.sz≤4194304)(hd:deep+(f+1)=7):Ctr Tryz.prog 208 [.ag (acE e),.c (.v (.int .i64 (deep:Int)))] [] (.c (.v (.int .i64 ((partsI (f+1) e:Nat):Int)))) []:=by
 obtain⟨x0,x1,x2A,x2c,l,rfl,gx0,gx1,gx2,-⟩:=zg1 he
 simp only [E.sz,E.szL] at hsz
 have hl:l.length≤4194304:=by omega
 refine zi1 Tryz.func208 rfl rfl ?_
 repeat' (first|(apply f_wo;first|(apply f_as;refine zu (v:=.c _) ?_)|refine n_bo ?_)|(apply f_w;first|refine zo ?_|refine zc ?_)|refine za fun C=>?_|refine zu6 ?_)
 refine zd ?_
 repeat' (first|(apply f_wo;first|(apply f_mv;refine zt (v:=.c _) ?_)|(apply zi4;refine zh2 ?_))|(apply f_w;first|refine zo ?_|refine zc ?_)|refine za fun C=>?_|refine zu6 ?_)
 refine zy2 (by rfl) (fun h=>by simp at h;omega) fun h=>?_
 refine zk ?_
 repeat' (first|(apply f_wo;(apply f_as;refine zu (v:=.c _) ?_))|(apply f_w;first|refine zo ?_|refine zc ?_)|refine za fun C=>?_|refine zu6 ?_)
 refine zw9 ⟨tmsF [(1,.c (.v (.int .i64 (deep:Int)))),(2,.c (.pt 2 0)),(5,.c (.v (.bool (headI (E.agg [.int .i64 x0,.str x1,.lst 3 208 x2A x2c l])))))],hpsF [(2,2,⟨208,0,0,true,[.v (.int .i64 x0),.v (.string x1),.ro l.length 3 (acL l)]⟩)],0,[2],115⟩ ?_ ?_
 ·have c1:=setOk_c (s:=x1) (by omega)
  have c2:=zg11 (zo7 x1 0)
  have c3:=con1Rex_c gx2.1 gx2.2 (by omega) (b:=[.v (.int .i64 x0),.v (.string x1),.ro l.length 3 (acL l)]) (by simp [cloL,clo,ze]) (fun x=>x.rk==x0) 219 (fun x hx=>cloRex_c (gx2.1 x hx) x0 rfl (by simp [clo,ze]))
  rw [zg14]
  clear ih he
  by_cases hin:x0=1∨x0=2∨x0=3∨x0=4∨x0=5∨x0=9∨x0=10∨x0=11
  ·rcases hin with rfl|rfl|rfl|rfl|rfl|rfl|rfl|rfl
   all_goals
    repeat' (first|(apply f_wo;first|(apply f_gs;refine n_sk ?_)|(apply f_mv;(refine zs1 ?_ ?_<;>intro hG<;>(try cases hG)))|(apply f_as;refine zu (v:=.c _) ?_)|(apply f_fa;refine n_fa ?_)|(apply f_ld;refine zn1 ?_)|(apply f_ca;first|refine zu1 c1 ?_|refine zu1 c2 ?_|refine zu1 ((zw4 _ _ _)) ?_|refine zy1 2 (c3) ?_)|(apply f_bi;first|refine zl2 ?_|refine zj6 ?_)|(apply zx1;first|refine zb1 ?_|refine zn8 ?_)|(apply f_no;refine za2 ?_)|(apply f_pk;refine zr1 (v:=.c _) ?_)|refine n_six ?_|refine zh1 ?_)|(apply f_w;first|refine zo ?_|refine zc ?_)|refine za fun C=>?_|refine zd ?_|refine zg ?_|refine zk ?_|(refine zn (by rfl) ?_ ?_<;>intro hC<;>(try cases hC)))
   all_goals
    (show Gh _ _
     refine zk1 _ _ rfl rfl (TmOk.cons rfl (TmOk.cons rfl (TmOk.cons (zs13 rfl (Lib.hid ?_)) TmOk.nil))) (RwOk.cons (zv rfl ?_) RwOk.nil)
     ·unfold headR
      clear c1 c2 c3 gx0 gx1 gx2 hsz hl hd h
      (try simp only [zf14,ib0,ib1,inR28] at *)
      first
       | (simp_all;done)
       | (simp_all;intros;omega)
     ·simp [cloL,clo,ze])
  ·by_cases hlp:x0=6∨x0=7∨x0=8
   ·by_cases hl1:l.length=1
    ·obtain⟨y,hy⟩:∃y,l[0]? = some y:=⟨_,List.getElem?_eq_getElem (by omega)⟩
     have hgk:=gx2.2
     have hyt:=gx2.1 y (List.mem_of_getElem? hy)
     have c4:=isLoop_c hyt
     have hl2:=zr19 hl1 hy
     obtain⟨y0,y1,y2A,y2c,y2l,rfl,gy0,gy1,gy2,-⟩:=zg1 hyt
     have hh:headR x0 x1 l=(x1.size==0&&!(loopK y0)):=by
      rw [hl2]
      unfold headR
      rcases hlp with rfl|rfl|rfl<;>simp [E.rk]
     have hh2:(headR x0 x1 l&&!((x0==4||x0==5)&&l.any fun x=>x.rk==x0))=(x1.size==0&&!(loopK y0)):=by
      rw [hh]
      rcases hlp with rfl|rfl|rfl<;>simp
     rw [hh2]
     clear hh hh2 c1 c2 c3
     rcases hlp with rfl|rfl|rfl
     all_goals
      repeat' (first|(apply f_wo;first|(apply f_gs;refine n_sk ?_)|(apply f_mv;(refine zs1 ?_ ?_<;>intro hG<;>(try cases hG)))|(apply f_as;refine zu (v:=.c _) ?_)|(apply f_fa;refine n_fa ?_)|(apply f_ld;first|refine zn1 ?_|refine zg4 ?_)|(apply f_ca;refine zu1 c4 ?_)|(apply f_bi;refine zl2 ?_)|(apply f_ia;refine n_ix ?_)|(apply zx1;first|refine zb1 ?_|refine zn8 ?_)|(apply f_no;refine za2 ?_)|(apply f_pk;refine zr1 (v:=.c _) ?_))|(apply f_w;first|refine zo ?_|refine zc ?_)|refine za fun C=>?_|refine zd ?_|refine zg ?_|refine zk ?_|(refine zn (by rfl) ?_ ?_<;>intro hC<;>(try cases hC)))
     all_goals first
      | (exfalso;simp [hl1] at hG;done)
      | (show Gh _ _
         refine zk1 _ _ rfl rfl (TmOk.cons rfl (TmOk.cons rfl (TmOk.cons (zs13 rfl (Lib.hid ?_)) TmOk.nil))) (RwOk.cons (zv rfl ?_) RwOk.nil)
         ·clear c4 gx0 gx1 gx2 gy0 gy1 gy2 hsz hl hd h hgk hyt
          (try simp only [E.rk,zf14,ib0,ib1,inR28] at *)
          first
           | (simp_all;done)
           | (simp_all;intros;omega)
         ·simp [cloL,clo,ze])
    ·have hh:(headR x0 x1 l&&!((x0==4||x0==5)&&l.any fun x=>x.rk==x0))=false:=by
      unfold headR
      rcases hlp with rfl|rfl|rfl<;>simp [hl1]
     have hl1':((l.length:Int)==1)=false:=by rw [ib1];simpa using hl1
     rw [hh]
     clear hh c1 c2 c3
     rcases hlp with rfl|rfl|rfl
     all_goals
      repeat' (first|(apply f_wo;first|(apply f_gs;refine n_sk ?_)|(apply f_mv;(refine zs1 ?_ ?_<;>intro hG<;>(try cases hG)))|(apply f_as;refine zu (v:=.c _) ?_)|(apply f_fa;refine n_fa ?_)|(apply f_ld;refine zn1 ?_)|(apply f_bi;refine zl2 ?_)|(apply zx1;first|refine zb1 ?_|refine zn8 ?_)|(apply f_pk;refine zr1 (v:=.c _) ?_))|(apply f_w;first|refine zo ?_|refine zc ?_)|refine za fun C=>?_|refine zd ?_|refine zg ?_|refine zk ?_|(refine zn (by rfl) ?_ ?_<;>intro hC<;>(try cases hC)))
     all_goals first
      | (exfalso;rw [hl1'] at hG;cases hG;done)
      | (show Gh _ _
         refine zk1 _ _ rfl rfl (TmOk.cons rfl (TmOk.cons rfl (TmOk.cons (zs13 rfl (Lib.hid ?_)) TmOk.nil))) (RwOk.cons (zv rfl ?_) RwOk.nil)
         ·first
           | rfl
           | simp_all
         ·simp [cloL,clo,ze])
   ·have hk:∀k:Int,1≤k→k≤11→x0≠k:=fun k g1 g2 g3=>by omega
    rw [zs19 hk,Bool.false_and]
    clear c1 c2 c3
    repeat' (first|(apply f_wo;first|(apply f_as;refine zu (v:=.c _) ?_)|(apply f_fa;refine n_fa ?_)|(apply f_ld;refine zn1 ?_)|(apply zx1;refine zb1 ?_))|(apply f_w;first|refine zo ?_|refine zc ?_)|refine za fun C=>?_|refine zd ?_|refine zg ?_)
    iterate 15
     (first
       | refine zr rfl ?_
       | refine zn (by rfl) (fun hC=>absurd (eq_of_beq hC) (hk _ (by omega) (by omega))) fun hC=>?_
       | skip)<;>repeat' (first|(apply f_wo;first|(apply f_as;refine zu (v:=.c _) ?_)|(apply zx1;refine zb1 ?_))|(apply f_w;first|refine zo ?_|refine zc ?_)|refine za fun C=>?_|refine zd ?_|refine zk ?_)
    (show Gh _ _
     refine zk1 _ _ rfl rfl (TmOk.cons rfl (TmOk.cons rfl (TmOk.cons (zs13 rfl (Lib.hid ?_)) TmOk.nil))) (RwOk.cons (zv rfl ?_) RwOk.nil)
     ·rfl
     ·simp [cloL,clo,ze])
 ·cases hh:headI (E.agg [.int .i64 x0,.str x1,.lst 3 208 x2A x2c l]) with
  | false =>
   repeat' (first|(apply f_wo;first|(apply f_mv;refine zt (v:=.c _) ?_)|(apply f_as;refine zu (v:=.c _) ?_)|(apply f_no;refine za2 ?_))|(apply f_w;first|refine zo ?_|refine zc ?_)|refine za fun C=>?_|refine zd ?_|refine zq rfl ?_)
   refine zi ?_
   refine ret0 (x:=.c (.v (.int .i64 61))) rfl zy ⟨?_,rfl⟩
   unfold partsI;rw [hh];rfl
  | true =>
   have hres:partsI (f+1) (E.agg [.int .i64 x0,.str x1,.lst 3 208 x2A x2c l])=sumI (partsI f) l 1:=by unfold partsI;rw [hh];rfl
   rw [hres]
   clear hres
   generalize hT:sumI (partsI f) l 1=tot
   repeat' (first|(apply f_wo;first|(apply f_mv;refine zt (v:=.c _) ?_)|(apply f_as;refine zu (v:=.c _) ?_)|(apply f_fa;refine n_fa ?_)|(apply f_ld;refine zn1 ?_)|(apply f_bi;refine zl2 ?_)|(apply f_no;refine za2 ?_))|(apply f_w;first|refine zo ?_|refine zc ?_)|refine za fun C=>?_|refine zd ?_|refine zg ?_|refine zk ?_|refine zr rfl ?_)
   refine zt1 (fun d:Nat×Nat=>⟨tmsF [(1,.c (.v (.int .i64 (deep:Int)))),(6,.c (.v (.int .i64 (d.2:Int)))),(99,.c (.ro l.length 3 (acL l))),(100,.c (.v (.int .i64 l.length))),(101,.c (.v (.int .i64 (d.1:Int))))],hpsF [],0,[],115⟩) (fun N d=>d.1+N=l.length∧d.2≤60∧sumI (partsI f) (l.drop d.1) d.2=tot) l.length (0,1) ⟨by simp,by simp,hT⟩ ?_ ?_
   ·(refine zk1 _ _ rfl rfl ?_ ?_<;>(repeat' (first|exact TmOk.nil|exact RwOk.nil|refine TmOk.cons ?_ ?_|refine RwOk.cons ?_ ?_|rfl|(refine rnV_id' rfl ?_;exact byc)|(refine zo1 ?_;first|rfl|omega|(rw [za1 (by omega) (by omega)];omega))|(refine zv rfl ?_;exact byc)|exact zg2 rfl rfl|(refine zp1 (by rfl) (by rfl) ?_ ?_<;>exact byc)|(refine rw_rn' rfl rfl ?_;simp;done))))
   rintro N ⟨k,n⟩ ⟨hN,hn,hs⟩
   dsimp only at hN hn hs ⊢
   repeat' (first|(apply f_wo;(apply zw2;refine zf1 ?_))|(apply f_w;first|refine zo ?_|refine zc ?_)|refine za fun C=>?_|refine zd ?_)
   refine zn (by rfl) (fun h1=>?_) fun h1=>?_
   ·have hk:k<l.length:=by simpa using h1
    obtain⟨x,hx⟩:∃x,l[k]? = some x:=⟨_,List.getElem?_eq_getElem hk⟩
    have hxt:=gx2.1 x (List.mem_of_getElem? hx)
    have hxs:=E.szL_mem (List.mem_of_getElem? hx)
    have hc:=ih x (deep+1) hxt (by omega) (by omega)
    have hb:=partsI_le f x
    have hd1:l.drop k=x :: l.drop (k+1):=by rw [List.drop_eq_getElem_cons hk];congr 1;rw [List.getElem?_eq_getElem hk] at hx;exact Option.some.inj hx
    rw [hd1] at hs
    unfold sumI at hs
    have hgk:=gx2.2
    obtain⟨y0,y1,y2A,y2c,y2l,rfl,gy0,gy1,gy2,-⟩:=zg1 hxt
    repeat' (first|(apply f_wo;first|(apply f_mv;refine zt (v:=.c _) ?_)|(apply f_as;refine zu (v:=.c _) ?_)|(apply f_ld;first|refine zg4 ?_|refine zq2 ?_)|(apply f_ca;refine zu1 hc ?_)|(apply f_st;refine n_st ?_)|(apply f_ia;refine n_ix ?_)|(apply zo9;refine zp3 ?_)|(apply zb2;refine zx ?_)|refine n_al ?_)|(apply f_w;first|refine zo ?_|refine zc ?_)|refine za fun C=>?_|refine zd ?_|refine zg ?_|refine zk ?_)
    refine zn (by rfl) (fun h2=>?_) fun h2=>?_
    ·have h3:61≤n+partsI f (E.agg [.int .i64 y0,.str y1,.lst 3 208 y2A y2c y2l]):=by simp at h2;omega
     repeat' (first|(apply f_wo;(apply f_as;refine zu (v:=.c _) ?_))|(apply f_w;first|refine zo ?_|refine zc ?_)|refine za fun C=>?_|refine zd ?_)
     refine zi ?_
     refine ret0 (x:=.c (.v (.int .i64 61))) rfl zy ⟨?_,rfl⟩
     rw [if_pos h3] at hs
     rw [←hs];rfl
    ·have h3:¬61≤n+partsI f (E.agg [.int .i64 y0,.str y1,.lst 3 208 y2A y2c y2l]):=by simp at h2;omega
     rw [if_neg h3] at hs
     repeat' (first|(apply f_wo;first|(apply f_mv;refine zt (v:=.c _) ?_)|(apply zb2;refine zx ?_))|(apply f_w;first|refine zo ?_|refine zc ?_)|refine za fun C=>?_|refine zk ?_)
     refine⟨N-1,(k+1,n+partsI f (E.agg [.int .i64 y0,.str y1,.lst 3 208 y2A y2c y2l])),by omega,⟨by dsimp only;omega,by dsimp only;omega,hs⟩,?_⟩
     (refine zk1 _ _ rfl rfl ?_ ?_<;>(repeat' (first|exact TmOk.nil|exact RwOk.nil|refine TmOk.cons ?_ ?_|refine RwOk.cons ?_ ?_|rfl|(refine rnV_id' rfl ?_;exact byc)|(refine zo1 ?_;first|rfl|omega|(rw [za1 (by omega) (by omega)];omega))|(refine zv rfl ?_;exact byc)|exact zg2 rfl rfl|(refine zp1 (by rfl) (by rfl) ?_ ?_<;>exact byc)|(refine rw_rn' rfl rfl ?_;simp;done))))
   ·have hk:k=l.length:=by simp at h1;omega
    repeat' (first|(apply f_wo;first|(apply f_mv;refine zt (v:=.c _) ?_)|(apply f_as;refine zu (v:=.c _) ?_))|(apply f_w;first|refine zo ?_|refine zc ?_)|refine za fun C=>?_|refine zd ?_|refine zw ?_)
    refine zi ?_
    refine ret0 (x:=.c (.v (.int .i64 (n:Int)))) rfl zy ⟨?_,rfl⟩
    rw [hk,List.drop_length] at hs
    rw [←hs];rfl
theorem zh21 (f:Nat):∀(e:E) (deep:Nat),e.Ty Tryz.prog 208→e.sz≤4194304→deep+f=7→Ctr Tryz.prog 208 [.ag (acE e),.c (.v (.int .i64 (deep:Int)))] [] (.c (.v (.int .i64 ((partsI f e:Nat):Int)))) []:=by
 induction f with
 | zero =>
  intro e deep he hsz hd
  obtain⟨x0,x1,x2A,x2c,l,rfl,gx0,gx1,gx2,-⟩:=zg1 he
  refine zi1 Tryz.func208 rfl rfl ?_
  obtain rfl:deep=7:=by omega
  repeat' (first|(apply f_wo;first|(apply f_mv;refine zt (v:=.c _) ?_)|(apply f_as;refine zu (v:=.c _) ?_)|(apply zi4;refine zh2 ?_)|refine n_bo ?_)|(apply f_w;first|refine zo ?_|refine zc ?_)|refine za fun C=>?_|refine zd ?_|refine zq rfl ?_)
  refine zi ?_
  exact ret0 (x:=.c (.v (.int .i64 61))) rfl zy ⟨rfl,rfl⟩
 | succ f ih=>exact zg21 ih
def intE:E→Int
 | .int _ z=>z
 | _=>0
theorem indInt_c {l:List E}(hl:∀e∈l,e.Ty Tryz.prog 3)(hk:∀e∈l,e.enc.length=1)(hlen:l.length≤1073741824)(v:Int):Ctr Tryz.prog 234 [.c (.ro l.length 1 (acL l)),.c (.v (.int .i64 v))] [] (.c (.v (.int .i64 (idxF (fun e=>v==intE e) l)))) []:=by
 refine zi1 Tryz.func234 rfl rfl ?_
 repeat (first|refine zd ?_|refine zg ?_|refine zk ?_|refine zw ?_|refine zi ?_|refine za fun C=>?_|refine zp (by kernel_rfl) (by kernel_rfl) fun C=>?_|refine zc ?_|refine zm2 ?_|refine x_bs ?_|refine x_gr ?_|refine x_st ?_|refine x_mv ?_|refine x_sk ?_|refine zf3 ?_|refine x_ix ?_|refine zd3 ?_|refine zg3 ?_|refine ze3 ?_|refine zo2 ?_|refine x_ld ?_)
 refine zt1 (fun k:Nat=>⟨tmsF [(0,.c (.ro l.length 1 (acL l))),(1,.c (.v (.int .i64 v))),(7,.c (.v (.int .i64 l.length))),(8,.c (.v (.int .i64 k)))],hpsF [],0,[],19⟩)
  (fun N k=>k+N=l.length∧∀j y,j<k→l[j]? = some y→(fun e=>v==intE e) y=false) l.length 0 ⟨by omega,by omega⟩ ?_ ?_
 ·(refine zk1 _ _ rfl rfl ?_ ?_<;>(repeat' (first|exact TmOk.nil|exact RwOk.nil|refine TmOk.cons ?_ ?_|refine RwOk.cons ?_ ?_|rfl|(refine rnV_id' rfl ?_;exact byc)|(refine zo1 ?_;first|rfl|omega|(rw [za1 (by omega) (by omega)];omega))|(refine zv rfl ?_;exact byc)|exact zg2 rfl rfl|(refine zp1 (by rfl) (by rfl) ?_ ?_<;>exact byc)|(refine rw_rn' rfl rfl ?_;simp;done))))
 rintro N k ⟨hN,hno⟩
 repeat (first|refine zd ?_|refine zg ?_|refine zk ?_|refine zw ?_|refine zi ?_|refine za fun C=>?_|refine zp (by kernel_rfl) (by kernel_rfl) fun C=>?_|refine zc ?_|refine zm2 ?_|refine x_bs ?_|refine x_gr ?_|refine x_st ?_|refine x_mv ?_|refine x_sk ?_|refine zf3 ?_|refine x_ix ?_|refine zd3 ?_|refine zg3 ?_|refine ze3 ?_|refine zo2 ?_|refine x_ld ?_)
 refine zy2 (by rfl) (fun h1=>?_) fun h1=>?_
 ·have hk':k<l.length:=by simpa using h1
  obtain⟨x,hx⟩:∃x,l[k]? = some x:=⟨_,List.getElem?_eq_getElem hk'⟩
  have hxt:=hl x (List.mem_of_getElem? hx)
  obtain⟨y0,rfl,-⟩:=hxt.int_ Tryz.underlying3
  repeat (first|refine zd ?_|refine zg ?_|refine zk ?_|refine zw ?_|refine zi ?_|refine za fun C=>?_|refine zp (by kernel_rfl) (by kernel_rfl) fun C=>?_|refine zc ?_|refine zm2 ?_|refine x_bs ?_|refine x_gr ?_|refine x_st ?_|refine x_mv ?_|refine x_sk ?_|refine zf3 ?_|refine x_ix ?_|refine zd3 ?_|refine zg3 ?_|refine ze3 ?_|refine zo2 ?_|refine x_ld ?_)
  refine zy2 (by rfl) (fun h2=>?_) fun h2=>?_
  ·repeat (first|refine zd ?_|refine zg ?_|refine zk ?_|refine zw ?_|refine zi ?_|refine za fun C=>?_|refine zp (by kernel_rfl) (by kernel_rfl) fun C=>?_|refine zc ?_|refine zm2 ?_|refine x_bs ?_|refine x_gr ?_|refine x_st ?_|refine x_mv ?_|refine x_sk ?_|refine zf3 ?_|refine x_ix ?_|refine zd3 ?_|refine zg3 ?_|refine ze3 ?_|refine zo2 ?_|refine x_ld ?_)
   refine ret0 (x:=.c (.v (.int .i64 k))) rfl zy ⟨?_,rfl⟩
   rw [zr10 hno hx (by simpa [intE,strB] using h2)]
  ·repeat (first|refine zd ?_|refine zg ?_|refine zk ?_|refine zw ?_|refine zi ?_|refine za fun C=>?_|refine zp (by kernel_rfl) (by kernel_rfl) fun C=>?_|refine zc ?_|refine zm2 ?_|refine x_bs ?_|refine x_gr ?_|refine x_st ?_|refine x_mv ?_|refine x_sk ?_|refine zf3 ?_|refine x_ix ?_|refine zd3 ?_|refine zg3 ?_|refine ze3 ?_|refine zo2 ?_|refine x_ld ?_)
   refine⟨N-1,k+1,by omega,⟨by omega,fun j z hj hz=>?_⟩,?_⟩
   ·by_cases e:j=k
    ·rw [e,hx] at hz;injection hz with hz;subst hz;simpa [intE,strB] using h2
    ·exact hno j z (by omega) hz
   ·(refine zk1 _ _ rfl rfl ?_ ?_<;>(repeat' (first|exact TmOk.nil|exact RwOk.nil|refine TmOk.cons ?_ ?_|refine RwOk.cons ?_ ?_|rfl|(refine rnV_id' rfl ?_;exact byc)|(refine zo1 ?_;first|rfl|omega|(rw [za1 (by omega) (by omega)];omega))|(refine zv rfl ?_;exact byc)|exact zg2 rfl rfl|(refine zp1 (by rfl) (by rfl) ?_ ?_<;>exact byc)|(refine rw_rn' rfl rfl ?_;simp;done))))
 ·have hk':¬k<l.length:=by simpa using h1
  repeat (first|refine zd ?_|refine zg ?_|refine zk ?_|refine zw ?_|refine zi ?_|refine za fun C=>?_|refine zp (by kernel_rfl) (by kernel_rfl) fun C=>?_|refine zc ?_|refine zm2 ?_|refine x_bs ?_|refine x_gr ?_|refine x_st ?_|refine x_mv ?_|refine x_sk ?_|refine zf3 ?_|refine x_ix ?_|refine zd3 ?_|refine zg3 ?_|refine ze3 ?_|refine zo2 ?_|refine x_ld ?_)
  refine ret0 (x:=.c (.v (.int .i64 (-1)))) rfl zy ⟨?_,rfl⟩
  rw [zt5 fun j y hj hy=>hno j y (by omega) hy]
theorem hasInt_c {l:List E}(hl:∀e∈l,e.Ty Tryz.prog 3)(hk:∀e∈l,e.enc.length=1)(hlen:l.length≤1073741824)(v:Int):Ctr Tryz.prog 222 [.c (.ro l.length 1 (acL l)),.c (.v (.int .i64 v))] [] (.c (.v (.bool (l.any (fun e=>v==intE e))))) []:=by
 refine zi1 Tryz.func222 rfl rfl ?_
 have hcc:=indInt_c hl hk hlen v
 repeat (first|refine zd ?_|refine zg ?_|refine zk ?_|refine zw ?_|refine zi ?_|refine za fun C=>?_|refine zp (by kernel_rfl) (by kernel_rfl) fun C=>?_|refine zc ?_|refine zm2 ?_|refine x_bs ?_|refine x_gr ?_|refine x_st ?_|refine x_mv ?_|refine x_sk ?_|refine zf3 ?_|refine x_ix ?_|refine zd3 ?_|refine zg3 ?_|refine ze3 ?_|refine zo2 ?_|refine x_ld ?_)
 refine zd6 hcc ?_
 repeat (first|refine zd ?_|refine zg ?_|refine zk ?_|refine zw ?_|refine zi ?_|refine za fun C=>?_|refine zp (by kernel_rfl) (by kernel_rfl) fun C=>?_|refine zc ?_|refine zm2 ?_|refine x_bs ?_|refine x_gr ?_|refine x_st ?_|refine x_mv ?_|refine x_sk ?_|refine zf3 ?_|refine x_ix ?_|refine zd3 ?_|refine zg3 ?_|refine ze3 ?_|refine zo2 ?_|refine x_ld ?_)
 refine ret0 (x:=.c (.v (.bool (decide (idxF (fun e=>v==intE e) l ≥ 0))))) rfl zy ⟨?_,rfl⟩
 rw [zx7]
theorem zh11 {e:E}(he:e.Ty Tryz.prog 208)(hsz:e.sz≤4194304):Ctr Tryz.prog 189 [.ag (acE e)] [] (.c (.v (.bool (rexOkI e)))) []:=by
 have hc:=zh21 6 e 1 he hsz rfl
 obtain⟨x0,x1,x2A,x2c,l,rfl,gx0,gx1,gx2,-⟩:=zg1 he
 refine zi1 Tryz.func189 rfl rfl ?_
 repeat' (first|(apply f_wo;first|(apply f_as;refine zu (v:=.c _) ?_)|(apply f_ld;refine zq2 ?_)|(apply f_ca;refine zu1 hc ?_)|(apply zk17;refine zb5 ?_)|refine n_bo ?_)|(apply f_w;first|refine zo ?_|refine zc ?_)|refine za fun C=>?_|refine zd ?_)
 (first|refine zi ?_|skip);refine ret0 rfl zy ⟨?_,rfl⟩;refine congrArg (fun s=>AV.c (AC.v (Value.bool s))) ?_
 unfold rexOkI
 (rw [Bool.eq_iff_iff];(try simp only [Bool.and_eq_true,Bool.or_eq_true,Bool.not_eq_true',decide_eq_true_iff,decide_eq_false_iff_not,beq_iff_eq,Bool.and_eq_false_iff,Bool.or_eq_false_iff,bne_iff_ne,ne_eq,Bool.true_eq_false,Bool.false_eq_true,true_iff,false_iff,iff_true,iff_false] at *);first|omega|(simp at *;omega))
def withK (ks:List Int)(k:Int)(t:ByteArray):ByteArray:=if ks.any (fun x=>k==x) then ⟨#[40]⟩++t++⟨#[41]⟩ else t
theorem join_snoc (a:List (List UInt8))(x sep:List UInt8):Lib.join (a++[x]) sep=(if a=[] then [] else Lib.join a sep++sep)++x:=by
 cases a with
 | nil=>simp [Lib.join_one]
 | cons y r =>
  rw [List.cons_append,Lib.join_cons,Lib.join_cons,if_neg (by simp)]
  simp [Lib.joinTail,List.append_assoc]
theorem zy12 (a b:List UInt8):(ByteArray.mk (a++b).toArray)=⟨a.toArray⟩++⟨b.toArray⟩:=by rw [ByteArray.mk_append_mk]
theorem mk_eta (s:ByteArray):(ByteArray.mk s.data.toList.toArray)=s:=by cases s;rfl
theorem zi21 {a:List E}(x:E)(sep:ByteArray):joinB (a++[x]) sep=(if a=[] then ByteArray.empty else joinB a sep++sep)++strB x:=by
 unfold joinB
 rw [List.map_append,List.map_cons,List.map_nil,join_snoc,zy12,mk_eta]
 congr 1
 by_cases h:a=[]
 ·subst h;rfl
 ·rw [if_neg h,if_neg (by simpa using h),zy12,mk_eta]
end Go.Proofs.YtghljnfbbaklnaaGreat
