/- A call in a drawn region that is lent one row and gives it back as it was: it only reads. -/
import Derived.Test.YtnjfnhoipnbpeaaGreatDoorTxtPAG
namespace Go.Proofs.YtnjfnhoipnbpeaaGreatDoor
open Go.RowKit
set_option maxRecDepth 100000
section
variable {P:Program}{ops:Array Oper}{Q:Exit→Act→World→Prop}{C:Ctx}{H:List (Nat×Oper×Inf)}{i:Nat}{r:List Nat}{dr:Bool}
variable {tm:Nat→AV}{hp:Nat→Option Row}{gn L:Nat}{us:List Nat}
theorem snd_same {o:Oper}{σ:AS}{fp:List Nat}{U:List (Nat×Option Row)}{x:AV}(hS:Snd P ops Q C i o σ ⟨fp,U,[],x⟩)(hU:∀f:Nat→Option Row,(∀j∈fp,f j=σ.hp j)→updL f U=f):Snd P ops Q C i o σ ⟨fp,[],[],x⟩:=by
 intro τ a w ha hs K hK
 refine hS τ a w ⟨ha.tm,ha.hp,ha.gn,ha.L,ha.us⟩ hs K fun a' w' h=>hK a' w' ?_
 have e:AS.app τ ⟨fp,U,[],x⟩ o=AS.app τ ⟨fp,[],[],x⟩ o:=by
  unfold AS.app
  dsimp only
  rw [hU τ.hp ha.hp]
  rfl
 rw [←e]
 exact h
theorem zj16 {ty:TypeId}{gd:Option (Nat×Bool)}{cas:Array Operand}{cts:Array TypeId}{ps:String}{af:Array Edge}{t:Nat}{fv:Operand}{f:FuncId}{caps:List AC}{args ins:List AV}{par:List AC}{y:Value}{k m:Nat}{T:TypeId}(lr:Nat)(hctr:Ctr Tryz.prog f ins [par] (.c (.v y)) [par])
 (h:Walk Tryz.prog ops Q C dr (keepH dr (i,(⟨some t,.call ⟨.value fv,cas,cts⟩,ty,ps,af,gd⟩:Oper),⟨[lr],[],[],.c (.v y)⟩) H) r ⟨upd tm t (.c (.v y)),hp,gn,us,L⟩)
 (hcl:cloL par=true)
 (ht:Nat.blt t L=true:=by exact rfl) (hg:gw ops tm (⟨some t,.call ⟨.value fv,cas,cts⟩,ty,ps,af,gd⟩:Oper)=some true:=by exact rfl) (hfv:AS.ev ⟨tm,hp,gn,us,L⟩ fv=.c (.fn f caps):=by exact rfl) (hargs:callArgs ⟨tm,hp,gn,us,L⟩ ⟨.value fv,cas,cts⟩ caps=args:=by exact rfl)
 (hcv:args.map (cvV hp [lr])=ins:=by ((repeat' (first|rfl|exact zl5|refine zw4 ?_ ?_|refine zb12 ?_|refine cv_c ?_|refine zx4 ?_ ?_|(refine zy6 ?_;exact byc)|(refine zz6 ?_;exact byc)|refine za7 ?_|(refine cvC_sl' (by rfl) (by rfl) (by rfl) (by rfl) ?_ ?_;(focus exact byc);(first|rfl|exact zf4 _))))<;>exact rfl)) (hr:hp lr=some ⟨T,k,m,true,par⟩:=by exact rfl) (hR0:args.flatMap snV=[]:=by exact rfl)
 (hc:chk dr ops i (⟨some t,.call ⟨.value fv,cas,cts⟩,ty,ps,af,gd⟩:Oper) ⟨[lr],[],[],.c (.v y)⟩ H=true:=by first|(with_reducible exact zj2)|kernel_rfl) :
 WalkO Tryz.prog ops Q C dr H i (⟨some t,.call ⟨.value fv,cas,cts⟩,ty,ps,af,gd⟩:Oper) r ⟨tm,hp,gn,us,L⟩:=⟨fun hop=>by
 have hR:callR ⟨tm,hp,gn,us,L⟩ ⟨.value fv,cas,cts⟩ caps=[]:=by unfold callR;rw [hargs,hR0]
 have hS:=zf19 (Q:=Q) (C:=C) (P:=Tryz.prog) (σ:=⟨tm,hp,gn,us,L⟩) (D:=[lr]) (Z:=[]) (id:=0) (pars:=[par]) (res:=.c (.v y)) (rows:=[par]) hop rfl rfl hfv hg (zz4 hr hcl) (by rw [hR];exact fun z hz=>absurd hz List.not_mem_nil) (fun z hz=>absurd hz List.not_mem_nil) (.inr (by rw [hR];exact fun z hz=>absurd hz List.not_mem_nil)) (by rw [hargs,hcv];exact hctr) (fun p hp=>absurd hp List.not_mem_nil)
 rw [hR] at hS
 have hS2:Snd Tryz.prog ops Q C i (⟨some t,.call ⟨.value fv,cas,cts⟩,ty,ps,af,gd⟩:Oper) ⟨tm,hp,gn,us,L⟩ ⟨[lr],[(lr,(hp lr).map fun r=>{ r with cs:=par })],[],.c (.v y)⟩:=hS
 refine⟨_,_,hop,snd_same hS2 (fun f hf=>?_),fun n hn=>absurd hn List.not_mem_nil,ze5 hc,zs3 ?_⟩
 ·funext j
  show upd f lr _ j=f j
  by_cases e:j=lr
  ·subst e
   have h1:=hf j (List.mem_singleton.2 rfl)
   rw [zb2,h1]
   show (hp j).map _=hp j
   rw [hr]
   rfl
  ·rw [zi2 _ _ e]
 ·show Walk Tryz.prog ops Q C dr _ r (AS.put _ (some t) _)
  rw [zp5 (by exact zd5 ht)];exact h⟩
end
theorem zd6:∀(ts:List ByteArray) (k:Nat),smB (ts.take k)≤smB ts
 | [],k=>by simp [smB]
 | x :: r,0=>Nat.zero_le _
 | x :: r,k+1=>by
  have:=zd6 r k
  simp only [List.take_succ_cons,smB];omega
theorem oneX_c {k:Int}{s t:ByteArray}{xs la lb:List E}{j:Nat}{x:E}(hx:xs[j]? = some x)(hk:∀e∈xs,e.enc.length=4)(hxt:x.Ty Tryz.prog 45){X:ByteArray}(cx:Ctr Tryz.prog 19 [.ag (acE x)] [] (.c (.v (.string X))) []):Ctr Tryz.prog 96 [.c (.v (.int .i64 (j:Int))),.c (.pt 0 0)] [[.v (.int .i64 k),.v (.string s),.v (.string t),.ro xs.length 4 (acL xs),.ro la.length 6 (acL la),.ro lb.length 6 (acL lb)]] (.c (.v (.string X))) [[.v (.int .i64 k),.v (.string s),.v (.string t),.ro xs.length 4 (acL xs),.ro la.length 6 (acL la),.ro lb.length 6 (acL lb)]]:=by
 obtain⟨y0,y1,y2,yA,yc,yl,rfl,-⟩:=zh1 hxt
 refine ze1 Tryz.func96 rfl rfl ?_
 repeat' (first|(apply f_wo;first|(apply f_mv;refine zv (v:=.c _) ?_)|(apply f_as;refine zq (v:=.c _) ?_)|(apply f_fa;refine n_fa ?_)|(apply f_ld;refine zq2 ?_)|(apply f_ca;refine zk1 cx ?_)|(apply f_ia;refine n_ix ?_)|refine zz1 ?_)|(apply f_w;first|refine zj ?_|refine zb ?_)|refine za fun C=>?_|refine zd ?_)
 refine zh ?_
 refine ret1 rfl zg1 rfl (by simp [cloL,clo,zk]) rfl ⟨?_,?_⟩
 all_goals rfl
set_option maxHeartbeats 2000000 in
theorem zh5 {l:List E}(hl:∀e∈l,e.Ty Tryz.prog 71)(hk:∀e∈l,e.enc.length=6)(hlen:l.length+E.szL l≤1048576)(hc:∀x∈l,Ctr Tryz.prog 42 [.ag (acE x)] [] (.c (.v (.string (stE x)))) []):Ctr Tryz.prog 18 [.c (.ro l.length 6 (acL l))] [] (.c (.v (.string (blT (l.map stE))))) []:=by
 have hs:=zu5 hl
 refine ze1 Tryz.func18 rfl rfl ?_
 repeat' (first|(apply f_wo;first|(apply f_mv;refine zv (v:=.c _) ?_)|(apply f_as;refine zq (v:=.c _) ?_)|(apply f_bi;refine zy1 ?_))|(apply f_w;first|refine zj ?_|refine zb ?_)|refine za fun C=>?_|refine zd ?_|refine ze ?_)
 refine zv1 (fun k:Nat=>⟨tmsF [(3,.c (.v (.string (blA ((l.map stE).take k))))),(6,.c (.ro l.length 6 (acL l))),(7,.c (.v (.int .i64 l.length))),(8,.c (.v (.int .i64 k)))],hpsF [],0,[],20⟩)
  (fun N k=>k+N=l.length) l.length 0 (by omega) ?_ ?_
 ·(refine zl1 _ _ rfl rfl ?_ ?_<;>(repeat' (first|exact TmOk.nil|exact RwOk.nil|refine TmOk.cons ?_ ?_|refine RwOk.cons ?_ ?_|rfl|(refine rnV_id' rfl ?_;exact byc)|(refine zp1 ?_;first|rfl|omega|(rw [zw (by omega) (by omega)];omega))|(refine zb1 rfl ?_;exact byc)|exact zc2 rfl rfl|(refine zq1 (by rfl) (by rfl) ?_ ?_<;>exact byc)|(refine rw_rn' rfl rfl ?_;simp;done))))
 rintro N k hN
 try dsimp only
 have hq:=zj14 ((l.map stE).take k)
 have hq2:=zd6 (l.map stE) k
 repeat' (first|(apply f_wo;(apply zg3;refine zs1 ?_))|(apply f_w;first|refine zj ?_|refine zb ?_)|refine za fun C=>?_|refine zd ?_)
 refine zi (by rfl) (fun hk1=>?_) fun hk1=>?_
 ·have hk':k<l.length:=by simpa using hk1
  obtain⟨x,hx⟩:∃x,l[k]? = some x:=⟨_,List.getElem?_eq_getElem hk'⟩
  have hxm:=List.mem_of_getElem? hx
  have hxt:=hl x hxm
  have c3:=hc x hxm
  have hxz:=E.szL_mem hxm
  have hts:=stE_le hxt
  have e:(l.map stE).take (k+1)=(l.map stE).take k++[stE x]:=by rw [List.take_add_one,List.getElem?_map,hx];rfl
  generalize stE x=T at c3 hts e
  obtain⟨y0,y1,y2,yA,yc,yl,zA,zc,zl,uA,uc,ul,rfl,-⟩:=zt1 hxt
  have hT1:(T++⟨#[32]⟩).size=T.size+1:=ByteArray.size_append' _ _
  repeat' (first|(apply f_wo;first|(apply f_mv;refine zv (v:=.c _) ?_)|(apply f_as;refine zq (v:=.c _) ?_)|(apply f_ld;first|refine zq2 ?_|refine zs2 ?_)|(apply f_ca;refine zk1 c3 ?_)|(apply f_st;refine n_st ?_)|(apply f_ia;refine n_ix ?_)|(apply zd2;first|refine zj1 ?_|refine zl3 ?_)|refine n_al ?_)|(apply f_w;first|refine zj ?_|refine zb ?_)|refine za fun C=>?_|refine zd ?_|refine ze ?_|refine zg ?_)
  refine⟨N-1,k+1,by omega,by omega,?_⟩
  rw [e,zi20]
  (refine zl1 _ _ rfl rfl ?_ ?_<;>(repeat' (first|exact TmOk.nil|exact RwOk.nil|refine TmOk.cons ?_ ?_|refine RwOk.cons ?_ ?_|rfl|(refine rnV_id' rfl ?_;exact byc)|(refine zp1 ?_;first|rfl|omega|(rw [zw (by omega) (by omega)];omega))|(refine zb1 rfl ?_;exact byc)|exact zc2 rfl rfl|(refine zq1 (by rfl) (by rfl) ?_ ?_<;>exact byc)|(refine rw_rn' rfl rfl ?_;simp;done))))
 ·have hk':¬k<l.length:=by simpa using hk1
  rw [List.take_of_length_le (by rw [List.length_map];omega)] at hq ⊢
  repeat' (first|(apply f_wo;first|(apply f_mv;refine zv (v:=.c _) ?_)|(apply f_as;refine zq (v:=.c _) ?_)|(apply zd2;refine zl3 ?_))|(apply f_w;first|refine zj ?_|refine zb ?_)|refine za fun C=>?_|refine zd ?_|refine zu ?_)
  refine zh ?_;refine ret0 rfl zg1 ⟨?_,rfl⟩;rfl
theorem zm5 {e:E}(he:e.Ty Tryz.prog 71)(hsz:e.sz≤1048576)(hb:stmtB e=true){T:ByteArray}(cx:Ctr Tryz.prog 71 [.ag (acE e)] [] (.c (.v (.string T))) []):Ctr Tryz.prog 42 [.ag (acE e)] [] (.c (.v (.string T))) []:=by
 have c0:=zp9 he hsz
 rw [hb] at c0
 obtain⟨y0,y1,y2,yA,yc,yl,zA,zc,zl,uA,uc,ul,rfl,-⟩:=zt1 he
 refine ze1 Tryz.func42 rfl rfl ?_
 repeat' (first|(apply f_wo;first|(apply f_as;refine zq (v:=.c _) ?_)|(apply f_ld;refine zs2 ?_)|(apply f_ca;first|refine zk1 c0 ?_|refine zk1 cx ?_)|(apply f_no;refine zu2 ?_)|refine n_bo ?_)|(apply f_w;first|refine zj ?_|refine zb ?_)|refine za fun C=>?_|refine zd ?_|refine zg ?_|refine zf1 rfl ?_)
 refine zh ?_;refine ret0 rfl zg1 ⟨?_,rfl⟩;rfl
theorem za13 {e:E}(he:e.Ty Tryz.prog 45)(hsz:e.sz≤1048576)(hok:okX e=true):Ctr Tryz.prog 19 [.ag (acE e)] [] (.c (.v (.string (txE e)))) []:=zx12 (e.sz+1) e he (by omega) (by omega) hok
set_option maxHeartbeats 8000000 in
theorem zn22 {e:E}(he:e.Ty Tryz.prog 71)(hsz:e.sz≤1048576)(hok:stmtB e=true)(ih:∀x,x.Ty Tryz.prog 71→x.sz<e.sz→stmtB x=true→Ctr Tryz.prog 71 [.ag (acE x)] [] (.c (.v (.string (stE x)))) []):Ctr Tryz.prog 71 [.ag (acE e)] [] (.c (.v (.string (stE e)))) []:=by
 obtain⟨k,s,t,xA,xc,xs,aA,ac,la,bA,bc,lb,rfl,-,-,-,⟨hx,kx⟩,⟨ha,ka⟩,⟨hb,kb⟩,-⟩:=zt1 he
 simp only [E.sz,E.szL] at hsz ih
 have hhead:sheadB k s t xs la.length lb.length=true:=zy12 hok
 obtain⟨hxs,hkind⟩:=zz12 hhead
 clear hhead
 have hkA:∀x∈la,Ctr Tryz.prog 42 [.ag (acE x)] [] (.c (.v (.string (stE x)))) []:=fun x hx=>by
  have:=E.szL_mem hx
  have h0:0<la.length:=List.length_pos_of_mem hx
  have hb:=zt6 hok (List.mem_append_left lb hx)
  exact zm5 (ha x hx) (by omega) hb (ih x (ha x hx) (by omega) hb)
 have hkB:∀x∈lb,Ctr Tryz.prog 42 [.ag (acE x)] [] (.c (.v (.string (stE x)))) []:=fun x hx=>by
  have:=E.szL_mem hx
  have h0:0<lb.length:=List.length_pos_of_mem hx
  have hb2:=zt6 hok (List.mem_append_right la hx)
  exact zm5 (hb x hx) (by omega) hb2 (ih x (hb x hx) (by omega) hb2)
 have cA:=zh5 ha ka (by omega) hkA
 have cB:=zh5 hb kb (by omega) hkB
 have zA:=zi4 (la.map stE)
 have zA2:=zu5 ha
 have zB:=zi4 (lb.map stE)
 have zB2:=zu5 hb
 have zJ:=zh16 hx
 have hkX:∀x∈xs,Ctr Tryz.prog 19 [.ag (acE x)] [] (.c (.v (.string (txE x)))) []:=fun x hx'=>by
  have:=E.szL_mem hx'
  exact za13 (hx x hx') (by omega) (hxs x hx')
 have cl:=zg20 hx kx (by omega) hkX
 rw [zk14]
 clear hkA hkB hok he ih
 generalize blT (la.map stE)=TA at cA zA ⊢
 generalize blT (lb.map stE)=TB at cB zB ⊢
 have hq:cloL [.v (.int .i64 k),.v (.string s),.v (.string t),.ro xs.length 4 (acL xs),.ro la.length 6 (acL la),.ro lb.length 6 (acL lb)]=true:=by simp [cloL,clo,zk]
 have key2:∀x y,xs=[x,y]→(k=3∨k=4)→Ctr Tryz.prog 71 [.ag (acE (.agg [.int .i64 k,.str s,.str t,.lst 4 45 xA xc xs,.lst 6 71 aA ac la,.lst 6 71 bA bc lb]))] [] (.c (.v (.string (sNode k s t (xs.map txE) TA TB lb.length)))) []:=fun x y hxy hk0=>by
  subst hxy
  have c0:=oneX_c (k:=k) (s:=s) (t:=t) (la:=la) (lb:=lb) (j:=0) (show [x,y][0]? = some x from rfl) kx (hx x (by simp)) (hkX x (by simp))
  have c1:=oneX_c (k:=k) (s:=s) (t:=t) (la:=la) (lb:=lb) (j:=1) (show [x,y][1]? = some y from rfl) kx (hx y (by simp)) (hkX y (by simp))
  have zx:=zl4 (hx x (by simp))
  have zy:=zl4 (hx y (by simp))
  have e2:[x,y].map txE=[txE x,txE y]:=rfl
  simp only [E.szL,List.length_cons,List.length_nil] at hsz
  rw [e2]
  clear cl hkX hkind hxs
  generalize txE x=X at c0 zx ⊢
  generalize txE y=Y at c1 zy ⊢
  have c0:Ctr Tryz.prog 96 [.c (.v (.int .i64 0)),.c (.pt 0 0)] _ _ _:=c0
  have c1:Ctr Tryz.prog 96 [.c (.v (.int .i64 1)),.c (.pt 0 0)] _ _ _:=c1
  rcases hk0 with rfl|rfl
  all_goals
   refine ze1 Tryz.func71 rfl rfl ?_
   repeat' (first|(apply d_wo;refine zj16 1 c0 ?_ hq)|(apply d_wo;refine zj16 1 c1 ?_ hq)|(apply f_wo;first|(apply f_mv;refine zv (v:=.c _) ?_)|(apply f_as;refine zq (v:=.c _) ?_)|(apply f_fa;refine n_fa ?_)|(apply f_ld;refine zn1 ?_)|(apply zr1;refine zm ?_)|(apply zd2;refine zl3 ?_)|refine n_bo ?_|refine zz1 ?_)|(apply f_w;first|refine zj ?_|refine zb ?_)|(apply d_wo;first|(apply d_mv;refine ze2 ?_)|(apply d_as;refine ze2 ?_)|(apply d_fa;refine o_fa ?_)|(apply d_ld;refine zp3 ?_)|(apply d_bb;refine zx5 ?_))|(apply d_w;first|refine zj ?_|refine zb ?_)|refine za fun C=>?_|refine zn (by kernel_rfl) (by kernel_rfl) fun C=>?_|refine zd ?_|refine ze ?_|refine za1 rfl ?_|refine zf1 rfl ?_)
   refine zh ?_;refine ret0 rfl zg1 ⟨?_,rfl⟩;rfl
 have key1:∀x,xs=[x]→(k=2∨k=11∨k=5∨k=6∨k=9∨k=10∨k=12)→Ctr Tryz.prog 71 [.ag (acE (.agg [.int .i64 k,.str s,.str t,.lst 4 45 xA xc xs,.lst 6 71 aA ac la,.lst 6 71 bA bc lb]))] [] (.c (.v (.string (sNode k s t (xs.map txE) TA TB lb.length)))) []:=fun x hxy hk0=>by
  subst hxy
  have c0:=oneX_c (k:=k) (s:=s) (t:=t) (la:=la) (lb:=lb) (j:=0) (show [x][0]? = some x from rfl) kx (hx x (by simp)) (hkX x (by simp))
  have zx:=zl4 (hx x (by simp))
  have e2:[x].map txE=[txE x]:=rfl
  simp only [E.szL,List.length_cons,List.length_nil] at hsz
  rw [e2]
  clear cl hkX hkind hxs key2
  generalize txE x=X at c0 zx ⊢
  have c0:Ctr Tryz.prog 96 [.c (.v (.int .i64 0)),.c (.pt 0 0)] _ _ _:=c0
  have e5:sNode 5 s t [X] TA TB lb.length=if lb.length=0 then ((⟨#[105,102,32,40]⟩++X)++⟨#[41,32]⟩)++TA else (((⟨#[105,102,32,40]⟩++X)++⟨#[41,32]⟩)++TA)++(⟨#[32,101,108,115,101,32]⟩++TB):=rfl
  rcases hk0 with rfl|rfl|rfl|rfl|rfl|rfl|rfl
  case inr.inr.inl =>
   rw [e5]
   by_cases hl0:lb.length=0
   ·rw [if_pos hl0]
    refine ze1 Tryz.func71 rfl rfl ?_
    repeat' (first|(apply d_wo;refine zj16 1 c0 ?_ hq)|(apply f_wo;first|(apply f_mv;refine zv (v:=.c _) ?_)|(apply f_as;refine zq (v:=.c _) ?_)|(apply f_fa;refine n_fa ?_)|(apply f_ld;refine zn1 ?_)|(apply f_ca;refine zk1 cB ?_)|(apply f_bi;refine zy1 ?_)|(apply zr1;refine zm ?_)|(apply zn3;refine za2 ?_)|(apply zd2;refine zl3 ?_)|refine n_bo ?_|refine zz1 ?_)|(apply f_w;first|refine zj ?_|refine zb ?_)|(apply d_wo;first|(apply d_mv;refine ze2 ?_)|(apply d_as;refine ze2 ?_)|(apply d_fa;refine o_fa ?_)|(apply d_ld;refine zp3 ?_)|(apply d_ca;refine zu3 cA ?_)|(apply d_bb;refine zx5 ?_))|(apply d_w;first|refine zj ?_|refine zb ?_)|refine za fun C=>?_|refine zn (by kernel_rfl) (by kernel_rfl) fun C=>?_|refine zd ?_|refine ze ?_|refine zg ?_|(refine zi (by rfl) ?_ ?_<;>intro hC<;>(try cases hC)))
    all_goals first
     | (exfalso;simp only [decide_eq_true_iff] at hC;omega)
     | (refine zh ?_;refine ret0 rfl zg1 ⟨?_,rfl⟩;rfl)
   ·rw [if_neg hl0]
    refine ze1 Tryz.func71 rfl rfl ?_
    repeat' (first|(apply d_wo;refine zj16 1 c0 ?_ hq)|(apply f_wo;first|(apply f_mv;refine zv (v:=.c _) ?_)|(apply f_as;refine zq (v:=.c _) ?_)|(apply f_fa;refine n_fa ?_)|(apply f_ld;refine zn1 ?_)|(apply f_ca;refine zk1 cB ?_)|(apply f_bi;refine zy1 ?_)|(apply zr1;refine zm ?_)|(apply zn3;refine za2 ?_)|(apply zd2;refine zl3 ?_)|refine n_bo ?_|refine zz1 ?_)|(apply f_w;first|refine zj ?_|refine zb ?_)|(apply d_wo;first|(apply d_mv;refine ze2 ?_)|(apply d_as;refine ze2 ?_)|(apply d_fa;refine o_fa ?_)|(apply d_ld;refine zp3 ?_)|(apply d_ca;refine zu3 cA ?_)|(apply d_bb;refine zx5 ?_))|(apply d_w;first|refine zj ?_|refine zb ?_)|refine za fun C=>?_|refine zn (by kernel_rfl) (by kernel_rfl) fun C=>?_|refine zd ?_|refine ze ?_|refine zg ?_|(refine zi (by rfl) ?_ ?_<;>intro hC<;>(try cases hC)))
    all_goals first
     | (exfalso;simp only [decide_eq_false_iff_not] at hC;omega)
     | (refine zh ?_;refine ret0 rfl zg1 ⟨?_,rfl⟩;rfl)
  all_goals
   refine ze1 Tryz.func71 rfl rfl ?_
   repeat' (first|(apply d_wo;refine zj16 1 c0 ?_ hq)|(apply f_wo;first|(apply f_mv;refine zv (v:=.c _) ?_)|(apply f_as;refine zq (v:=.c _) ?_)|(apply f_fa;refine n_fa ?_)|(apply f_ld;refine zn1 ?_)|(apply zr1;refine zm ?_)|(apply zd2;refine zl3 ?_)|refine n_bo ?_|refine zz1 ?_)|(apply f_w;first|refine zj ?_|refine zb ?_)|(apply d_wo;first|(apply d_mv;refine ze2 ?_)|(apply d_as;refine ze2 ?_)|(apply d_fa;refine o_fa ?_)|(apply d_ld;refine zp3 ?_)|(apply d_ca;refine zu3 cA ?_)|(apply d_bb;refine zx5 ?_))|(apply d_w;first|refine zj ?_|refine zb ?_)|refine za fun C=>?_|refine zn (by kernel_rfl) (by kernel_rfl) fun C=>?_|refine zd ?_|refine ze ?_|refine zg ?_|refine za1 rfl ?_|refine zf1 rfl ?_)
   refine zh ?_;refine ret0 rfl zg1 ⟨?_,rfl⟩;rfl
 rcases hkind with rfl|⟨hk0,x,hxy⟩|⟨hk0,x,y,hxy⟩|⟨hk0,x,hxy⟩|rfl|rfl|⟨hk0,x,hxy⟩|⟨hk0,x,hxy⟩
 all_goals first
  | (exact key2 x y hxy hk0)
  | (exact key1 x hxy (by omega))
  | skip
 all_goals
  clear key1 key2
  refine ze1 Tryz.func71 rfl rfl ?_
  repeat' (first|(apply f_wo;first|(apply f_as;refine zq (v:=.c _) ?_)|(apply f_fa;refine n_fa ?_)|(apply f_ld;refine zn1 ?_)|(apply f_ca;refine zk1 cl ?_)|(apply zr1;refine zm ?_)|(apply zd2;refine zl3 ?_)|refine n_bo ?_|refine zz1 ?_)|(apply f_w;first|refine zj ?_|refine zb ?_)|(apply d_wo;first|(apply d_as;refine ze2 ?_)|(apply d_fa;refine o_fa ?_)|(apply d_ld;refine zp3 ?_)|(apply d_ca;refine zu3 cA ?_)|(apply d_bb;refine zx5 ?_))|(apply d_w;first|refine zj ?_|refine zb ?_)|refine za fun C=>?_|refine zn (by kernel_rfl) (by kernel_rfl) fun C=>?_|refine zd ?_|refine ze ?_|refine za1 rfl ?_|refine zf1 rfl ?_)
  refine zh ?_;refine ret0 rfl zg1 ⟨?_,rfl⟩;rfl
theorem zb13:∀(n:Nat) (e:E),e.Ty Tryz.prog 71→e.sz<n→n≤1048577→stmtB e=true→Ctr Tryz.prog 71 [.ag (acE e)] [] (.c (.v (.string (stE e)))) []
 | 0,_,_,h,_,_=>absurd h (Nat.not_lt_zero _)
 | n+1,e,he,hsz,hn,hok=>zn22 he (by omega) hok fun x hx hxs hb=>zb13 n x hx (by omega) (by omega) hb
end Go.Proofs.YtnjfnhoipnbpeaaGreatDoor
