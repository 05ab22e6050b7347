/- T -/
import Derived.Test.YtmnneflenebgmaaGreatRxOAK
set_option maxHeartbeats 0
set_option maxRecDepth 100000
namespace Go.Proofs.YtmnneflenebgmaaGreat
open Go.RowKit Go.Proofs.Tryz
theorem vX {l:List E}{p:E→Bool}:(l.any fun e=>!p e)=!l.all p:=by
 induction l with
 | nil=>rfl
 | cons x r ih=>rw [List.any_cons,List.all_cons,ih];cases p x<;>rfl
theorem sC {e:E}(he:e.Ty prog 106)(hsz:e.sz≤1048576):Ctr prog 190 [.ag (acE e)] [] (.c (.v (.bool (!jd e)))) []:=by
 have c1:=oA he hsz
 generalize jd e=b at c1 ⊢
 obtain⟨z0,z1,z2,zA,zc,zx,yA,yc,ya,wA,wc,yb,rfl,-⟩:=aQ he
 refine av func190 rfl rfl ?_
 repeat' (first|(apply ay;first|refine ak ?_|refine bz ?_|refine aI c1 ?_|refine bF ?_|refine bN ?_)|refine al ?_|refine ab ?_|refine aa fun C=>?_|refine ae ?_)
 exact d8
theorem oC {l:List E}(hl:∀e∈l,e.Ty prog 106)(hk:∀e∈l,e.enc.length=6)(hlen:l.length+E.szL l≤1048576):Ctr prog 139 [.c (.ro l.length 6 (acL l))] [] (.c (.v (.bool (fe l)))) []:=by
 have c1:=sx hl hk omq (fun e=>!jd e) 190 fun x hx=>sC (hl x hx) (by have:=E.szL_mem hx;omega)
 rw [vX] at c1
 unfold fe
 generalize l.all jd=b at c1 ⊢
 by_cases h:l.length≤20
 ·rw [show decide (l.length≤20)=true from decide_eq_true h,Bool.true_and]
  refine av func139 rfl rfl ?_
  repeat' (first|(apply ay;first|refine bO ?_|(refine aV ?_ ?_<;>intro hG<;>(try cases hG))|refine ao ?_|refine ak ?_|refine aI c1 ?_|refine aY ?_|refine bv ?_|refine bF ?_|refine aE ?_)|refine al ?_|refine ab ?_|refine aa fun C=>?_|refine ae ?_)
  all_goals first
   | (exfalso;simp only [decide_eq_true_iff,decide_eq_false_iff_not] at *;omega)
   | (refine am ?_;refine bi rfl aM ⟨?_,rfl⟩;cases b<;>rfl)
 ·rw [show decide (l.length≤20)=false from decide_eq_false h,Bool.false_and]
  refine av func139 rfl rfl ?_
  repeat' (first|(apply ay;first|refine bO ?_|(refine aV ?_ ?_<;>intro hG<;>(try cases hG))|refine ao ?_|refine ak ?_|refine aI c1 ?_|refine aY ?_|refine bv ?_|refine bF ?_|refine aE ?_)|refine al ?_|refine ab ?_|refine aa fun C=>?_|refine ae ?_)
  all_goals first
   | (exfalso;simp only [decide_eq_true_iff,decide_eq_false_iff_not] at *;omega)
   | (refine am ?_;refine bi rfl aM ⟨?_,rfl⟩;rfl)
def zX:E:=.agg [.int .i64 0,.int .i64 0,.str ByteArray.empty,.lst 4 70 none 0 []]
theorem zX_Ty:zX.Ty prog 70:=E.Ty.mk_agg underlying70 (E.TyF.mk_cons (gL (by decide)) (E.TyF.mk_cons (gL (by decide)) (E.TyF.mk_cons (by simp only [E.Ty];exact⟨underlying9,by decide⟩) (E.TyF.mk_cons (E.Ty.mk_lst underlying68 (by kernel_rfl) (by simp) (by simp)) E.TyF.mk_nil))))
theorem zg2 (l:List E):sK l []=decide (l.length=0):=by
 cases l with
 | nil=>exact jT
 | cons x r=>rw [q7 (by simp)];rfl
theorem zf4 {e:E}(he:e.Ty prog 70):eqD e zX=pN e:=by
 obtain⟨k0,n0,s0,xA,xc,l,rfl,-⟩:=aB he
 unfold zX
 rw [vV,fw,fw,fw,fw,jT,pZ,pZ,vU,vW,zg2,Bool.and_true]
 show ((k0==0)&&((n0==0)&&(emB s0&&decide (l.length=0))))=(decide (k0=0)&&(decide (n0=0)&&(emB s0&&decide (l.length=0))))
 rfl
theorem zh2 {e:E}(he:e.Ty prog 70)(hsz:e.sz≤1048576):Ctr prog 141 [.ag (acE e),.ag [.v (.int .i64 0),.v (.int .i64 0),.v (.string ByteArray.empty),.v (.slice none 0 0)]] [] (.c (.v (.bool (pN e)))) []:=by
 rw [←zf4 he]
 refine pg (lm he zX_Ty hsz (by decide)) fun w St φ K us h=>?_
 simp only [VRL] at h ⊢
 obtain⟨u,us1,rfl,h1,v,us2,rfl,h2,rfl⟩:=h
 refine⟨u,[v],rfl,h1,v,[],rfl,?_,rfl⟩
 simp only [VR] at h2 ⊢
 obtain⟨vs,rfl,h3⟩:=h2
 refine⟨vs,rfl,?_⟩
 simp only [zX,acE,acL,CRL,CR,List.append_nil,List.cons_append,List.nil_append,List.length_nil] at h3 ⊢
 obtain⟨u1,r1,f1,g1,rfl,e1,⟨rfl,s1,rfl⟩,u2,r2,f2,g2,rfl,e2,⟨rfl,s2,rfl⟩,u3,r3,f3,g3,rfl,e3,⟨rfl,s3,rfl⟩,u4,r4,f4,g4,rfl,e4,⟨rfl,s4,rfl⟩,rfl,rfl⟩:=h3
 refine⟨_,_,[],[],rfl,rfl,⟨rfl,rfl,rfl⟩,_,_,[],[],rfl,rfl,⟨rfl,rfl,rfl⟩,_,_,[],[],rfl,rfl,⟨rfl,rfl,rfl⟩,_,_,[],[],rfl,rfl,⟨rfl,none,0,rfl,⟨Nat.le_refl _,by unfold maxLen;omega,fun _=>rfl⟩,by simp,fun h=>absurd h (Nat.lt_irrefl 0)⟩,rfl,rfl⟩
theorem yv {k:Int}{p:E}{l:List E}(hp:p.Ty prog 70)(hpz:p.sz≤1048576)(hl:∀e∈l,e.Ty prog 106)(hk:∀e∈l,e.enc.length=6)(hlen:l.length+E.szL l≤1048576):Ctr prog 93 [.ag (.v (.int .i64 k) :: (acE p++[.ro l.length 6 (acL l)]))] [] (.c (.v (.bool (mO k p l)))) []:=by
 have c1:=oC hl hk hlen
 have c2:=zh2 hp hpz
 have c3:=jw hp hpz
 have cw:=fL k 1 4
 obtain⟨k0,n0,s0,xA,xc,pl,rfl,-⟩:=aB hp
 unfold mO
 generalize fe l=b1 at c1 ⊢
 generalize pN _=b2 at c2 ⊢
 generalize fX _=b3 at c3 ⊢
 by_cases h4:k=4
 ·subst h4
  rw [if_pos rfl,show inR 4 1 4=true from rfl] at *
  cases b1
  all_goals
   refine av func93 rfl rfl ?_
   repeat' (first|(apply ay;first|(refine aV ?_ ?_<;>intro hG<;>(try cases hG))|refine ak ?_|refine be ?_|refine aL ?_|refine aI cw ?_|refine aI c1 ?_|refine aI c3 ?_|refine aq ?_|refine bF ?_|refine aE ?_|refine bN ?_|refine aU ?_)|refine al ?_|refine ab ?_|refine aa fun C=>?_|refine ae ?_|refine ai ?_|refine az rfl ?_|refine aF rfl ?_)
   exact d8
 ·rw [if_neg h4]
  generalize inR k 1 4=bw at cw ⊢
  cases bw<;>cases b1
  case true.true =>
   refine av func93 rfl rfl ?_
   repeat' (first|(apply ay;first|(refine aV ?_ ?_<;>intro hG<;>(try cases hG))|refine ak ?_|refine be ?_|refine aL ?_|refine aI cw ?_|refine aI c1 ?_|refine aq ?_|refine bF ?_|refine aE ?_|refine bN ?_)|refine al ?_|refine ab ?_|refine aa fun C=>?_|refine ae ?_|refine ai ?_|refine aF rfl ?_)
   refine aj (by rfl) (fun hC=>absurd (eq_of_beq hC) h4) fun hC=>?_
   repeat' (first|(apply ay;first|refine ak ?_|refine be ?_|refine aI c2 ?_|refine aU ?_)|refine al ?_|refine ab ?_|refine aa fun C=>?_|refine ae ?_|refine ai ?_)
   exact d8
  all_goals
   refine av func93 rfl rfl ?_
   repeat' (first|(apply ay;first|refine bO ?_|(refine aV ?_ ?_<;>intro hG<;>(try cases hG))|refine ak ?_|refine be ?_|refine aL ?_|refine aI cw ?_|refine aI c1 ?_|refine bF ?_|refine aE ?_|refine bN ?_)|refine al ?_|refine ab ?_|refine aa fun C=>?_|refine ae ?_|refine az rfl ?_)
   exact d8
theorem zg4 {s:ByteArray}{ps l:List E}(hs:s.size≤1048576)(hp:∀e∈ps,e.Ty prog 9)(kp:∀e∈ps,e.enc.length=1)(zp:ps.length+E.szL ps≤1048576)(hl:∀e∈l,e.Ty prog 106)(hk:∀e∈l,e.enc.length=6)(hlen:l.length+E.szL l≤1048576):Ctr prog 94 [.ag [.v (.string s),.ro ps.length 1 (acL ps),.ro l.length 6 (acL l)]] [] (.c (.v (.bool (bW s&&(decide (ps.length≤4)&&(fe l&&si ps)))))) []:=by
 have c1:=da hs
 have c2:=oC hl hk hlen
 generalize bW s=b1 at c1 ⊢
 generalize fe l=b2 at c2 ⊢
 by_cases h:b1=true∧ps.length≤4∧b2=true
 ·obtain⟨rfl,h4,rfl⟩:=h
  rw [show decide (ps.length≤4)=true from decide_eq_true h4,Bool.true_and,Bool.true_and,Bool.true_and]
  refine av func94 rfl rfl ?_
  repeat' (first|(apply ay;first|refine bO ?_|(refine aV ?_ ?_<;>intro hG<;>(try cases hG))|refine ao ?_|refine ak ?_|refine be ?_|refine aL ?_|refine aI c1 ?_|refine aI c2 ?_|refine aY ?_|refine a8 ?_|refine bF ?_|refine aE ?_|refine bN ?_)|refine al ?_|refine ab ?_|refine aa fun C=>?_|refine ae ?_|refine ah ?_|refine ai ?_|refine az rfl ?_|refine aF rfl ?_)
  all_goals try (exfalso;simp only [decide_eq_true_iff] at hG;omega)
  refine aP (fun k:Nat=>⟨dy [(1,.c (.pt 1 0)),(22,.c (.ro ps.length 1 (acL ps))),(23,.c (.v (.int .i64 ps.length))),(24,.c (.v (.int .i64 (k:Int))))],dn [(1,1,⟨89,0,0,true,[.v (.string s),.ro ps.length 1 (acL ps),.ro l.length 6 (acL l)]⟩)],0,[1],41⟩)
   (fun N k=>k+N=ps.length∧∀j,j<k→pP ps j=true) ps.length 0 ⟨omq,fun j hj=>absurd hj (Nat.not_lt_zero j)⟩ ?_ ?_
  ·(refine aD _ _ rfl rfl ?_ ?_<;>exact tdy0)
  rintro N k ⟨hN,hr⟩
  try dsimp only
  repeat' (first|(apply ay;refine aN ?_)|refine al ?_|refine ab ?_|refine aa fun C=>?_|refine ae ?_)
  refine aj (by rfl) (fun h1=>?_) fun h1=>?_
  ·have hk':k<ps.length:=by simpa using h1
   obtain⟨x,hx'⟩:∃x,ps[k]? = some x:=⟨_,List.getElem?_eq_getElem hk'⟩
   have hxz:=E.szL_mem (List.mem_of_getElem? hx')
   obtain⟨z,rfl,-⟩:=(hp x (List.mem_of_getElem? hx')).str_ underlying9
   simp only [E.sz] at hxz
   have d1:=da (s:=z) omq
   have hll:(ps.take k).length≤1073741824:=by rw [List.length_take];omega
   have d2:Ctr prog 53 [.c (.ro (ps.take k).length 1 (acL (ps.take k))),.c (.v (.string z))] [] (.c (.v (.bool (iO (ps.take k) z)))) []:=fQ (fun e he=>hp e (List.mem_of_mem_take he)) (fun e he=>kp e (List.mem_of_mem_take he)) hll z
   have ep:pP ps k=(bW z&&!iO (ps.take k) z):=by unfold pP;rw [hx'];rfl
   generalize bW z=e1 at d1 ep
   generalize iO (ps.take k) z=e2 at d2 ep
   cases e1<;>cases e2
   case true.false =>
    repeat' (first|(apply ay;refine n_hd k kp omq rfl ?_)|(apply ay;first|(refine aV ?_ ?_<;>intro hG<;>(try cases hG))|refine ao ?_|refine ak ?_|refine be ?_|refine aL ?_|refine de ?_|refine aI d1 ?_|refine aI d2 ?_|refine dD ?_|refine aC ?_|refine bF ?_|refine aE ?_)|refine al ?_|refine ab ?_|refine aa fun C=>?_|refine ae ?_|refine ah ?_|refine ai ?_|refine aF rfl ?_)
    refine⟨N-1,k+1,omq,⟨omq,fun j hj=>?_⟩,?_⟩
    ·by_cases e:j=k
     ·subst e;exact ep
     ·exact hr j omq
    ·(refine aD _ _ rfl rfl ?_ ?_<;>exact tdy0)
   all_goals
    rw [show si ps=false from je hk' ep]
    repeat' (first|(apply ay;refine n_hd k kp omq rfl ?_)|(apply ay;first|refine bO ?_|(refine aV ?_ ?_<;>intro hG<;>(try cases hG))|refine ao ?_|refine ak ?_|refine be ?_|refine aL ?_|refine de ?_|refine aI d1 ?_|refine aI d2 ?_|refine dD ?_|refine bF ?_|refine aE ?_)|refine al ?_|refine ab ?_|refine aa fun C=>?_|refine ae ?_|refine ah ?_|refine ai ?_|refine az rfl ?_)
    exact d8
  ·have hk':¬k<ps.length:=by simpa using h1
   rw [show si ps=true from jS fun j hj=>hr j omq]
   repeat' (first|(apply ay;refine ak ?_)|refine al ?_|refine ab ?_|refine aa fun C=>?_|refine ae ?_|refine au ?_)
   exact d8
 ·rw [show (b1&&(decide (ps.length≤4)&&(b2&&si ps)))=false by
   cases b1<;>cases b2<;>simp_all
   intro h9
   omega]
  cases b1<;>cases b2
  all_goals
   refine av func94 rfl rfl ?_
   repeat' (first|(apply ay;first|refine bO ?_|(refine aV ?_ ?_<;>intro hG<;>(try cases hG))|refine ao ?_|refine ak ?_|refine be ?_|refine aL ?_|refine aI c1 ?_|refine aI c2 ?_|refine aY ?_|refine a8 ?_|refine bF ?_|refine aE ?_|refine bN ?_)|refine al ?_|refine ab ?_|refine aa fun C=>?_|refine ae ?_|refine ah ?_|refine ai ?_|(refine aj (by rfl) ?_ ?_<;>intro hC<;>(try cases hC)))
  all_goals first
   | (refine am ?_;refine bi rfl aM ⟨?_,rfl⟩;rfl)
   | (exfalso;simp_all;done)
   | (exfalso;simp_all;omega)
theorem zi2 {x:E}(hx:x.Ty prog 89)(s:ByteArray):Ctr prog 144 [.ag (acE x),.c (.pt 0 0)] [[.v (.string s)]] (.c (.v (.bool (qT s x)))) [[.v (.string s)]]:=by
 obtain⟨n0,pA,pc,ps,bA,bc,bl,rfl,-⟩:=bM hx
 refine av func144 rfl rfl ?_
 repeat' (first|(apply ay;first|refine ak ?_|refine be ?_|refine aL ?_|refine bE ?_|refine bN ?_)|refine al ?_|refine ab ?_|refine aa fun C=>?_|refine ae ?_)
 refine am ?_
 refine em rfl aM rfl (by rfl) rfl ⟨?_,?_⟩
 all_goals rfl
theorem zh4 {rs fs:List E}(hl:∀e∈fs,e.Ty prog 89)(hk:∀e∈fs,e.enc.length=3)(hlen:fs.length≤1048576)(s:ByteArray):Ctr prog 95 [.ag [.ro rs.length 6 (acL rs),.ro fs.length 3 (acL fs)],.c (.v (.string s))] [] (.c (.v (.int .i64 (gF (qT s) fs)))) []:=by
 have c1:=yu hl hk omq (b:=[.v (.string s)]) rfl (qT s) 144 fun x hx=>zi2 (hl x hx) s
 refine av func95 rfl rfl ?_
 repeat' (first|(apply ay;first|refine ak ?_|refine be ?_|refine bd 3 (c1) ?_|refine bN ?_|refine aU ?_)|refine al ?_|refine ab ?_|refine aa fun C=>?_|refine ae ?_)
 exact d8
theorem zj2 {x:E}(hx:x.Ty prog 87)(hsz:x.sz≤1048576):Ctr prog 92 [.ag (acE x)] [] (.c (.v (.bool (!kP x)))) []:=by
 obtain⟨k0,p0,p1,p2,pA,pc,pl,bA,bc,bl,rfl,-,g1,g2,g3,⟨g4,g4'⟩,⟨g5,g5'⟩,-⟩:=bH hx
 simp only [E.sz,E.szL] at hsz
 have cx:=yv (k:=k0) (p:=.agg [.int .i64 p0,.int .i64 p1,.str p2,.lst 4 70 pA pc pl]) (E.Ty.mk_agg underlying70 (E.TyF.mk_cons (gL g1) (E.TyF.mk_cons (gL g2) (E.TyF.mk_cons (by simp only [E.Ty];exact⟨underlying9,by unfold maxLen;omega⟩) (E.TyF.mk_cons (E.Ty.mk_lst underlying68 (by kernel_rfl) g4 g4') E.TyF.mk_nil))))) (by simp only [E.sz,E.szL];omega) g5 g5' omq
 rw [show kP (.agg [.int .i64 k0,.agg [.int .i64 p0,.int .i64 p1,.str p2,.lst 4 70 pA pc pl],.lst 6 106 bA bc bl])=mO k0 (.agg [.int .i64 p0,.int .i64 p1,.str p2,.lst 4 70 pA pc pl]) bl from rfl]
 generalize mO k0 _ bl=b at cx ⊢
 refine av func92 rfl rfl ?_
 repeat' (first|(apply ay;first|refine ak ?_|refine bz ?_|refine aI cx ?_|refine bF ?_|refine bN ?_)|refine al ?_|refine ab ?_|refine aa fun C=>?_|refine ae ?_)
 exact d8
theorem oD {e:E}(he:e.Ty prog 27)(hsz:e.sz≤1048576):Ctr prog 39 [.ag (acE e)] [] (.c (.v (.bool (progE e)))) []:=by
 obtain⟨rA,rc,rs,fA,fc,fs,rfl,⟨hr,kr⟩,⟨hf,kf⟩,-⟩:=b8 he
 simp only [E.sz,E.szL] at hsz
 show Ctr _ _ _ _ (.c (.v (.bool (eW rs fs)))) _
 have cR:=sB hr kr omq (fun e=>!kP e) 92 fun x hx=>zj2 (hr x hx) (by have:=E.szL_mem hx;omega)
 rw [vX] at cR
 unfold eW
 generalize rs.all kP=bR at cR ⊢
 by_cases h:rs.length≤10∧fs.length≤6∧bR=true
 ·obtain⟨h1,h2,rfl⟩:=h
  rw [show decide (rs.length≤10)=true from decide_eq_true h1,show decide (fs.length≤6)=true from decide_eq_true h2,Bool.true_and,Bool.true_and]
  refine av func39 rfl rfl ?_
  repeat' (first|(apply ay;first|refine bO ?_|(refine aV ?_ ?_<;>intro hG<;>(try cases hG))|refine ao ?_|refine ak ?_|refine be ?_|refine aL ?_|refine aI cR ?_|refine aY ?_|refine a8 ?_|refine aE ?_|refine bN ?_)|refine al ?_|refine ab ?_|refine aa fun C=>?_|refine ae ?_|refine ah ?_|refine ai ?_|refine az rfl ?_|refine aF rfl ?_)
  all_goals try (exfalso;simp only [decide_eq_true_iff] at *;omega)
  refine aP (fun k:Nat=>⟨dy [(1,.c (.pt 1 0)),(21,.c (.ro fs.length 3 (acL fs))),(22,.c (.v (.int .i64 fs.length))),(23,.c (.v (.int .i64 (k:Int))))],dn [(1,1,⟨27,0,0,true,[.ro rs.length 6 (acL rs),.ro fs.length 3 (acL fs)]⟩)],0,[1],40⟩)
   (fun N k=>k+N=fs.length∧∀j,j<k→gv fs j=true) fs.length 0 ⟨omq,fun j hj=>absurd hj (Nat.not_lt_zero j)⟩ ?_ ?_
  ·(refine aD _ _ rfl rfl ?_ ?_<;>exact tdy0)
  rintro N i ⟨hN,hno⟩
  try dsimp only
  repeat' (first|(apply ay;refine aN ?_)|refine al ?_|refine ab ?_|refine aa fun C=>?_|refine ae ?_)
  refine aj (by rfl) (fun h1=>?_) fun h1=>?_
  ·have hi':i<fs.length:=by simpa using h1
   obtain⟨x,hx'⟩:∃x,fs[i]? = some x:=⟨_,List.getElem?_eq_getElem hi'⟩
   have hxz:=E.szL_mem (List.mem_of_getElem? hx')
   obtain⟨n0,pA,pc,ps,bA,bc,bl,rfl,g0,⟨g1,g1'⟩,⟨g2,g2'⟩,-⟩:=bM (hf x (List.mem_of_getElem? hx'))
   simp only [E.sz,E.szL] at hxz
   have c1:=zg4 (s:=n0) omq g1 g1' omq g2 g2' omq
   have c2:=zh4 (rs:=rs) hf kf omq n0
   have ef:gv fs i=((bW n0&&(decide (ps.length≤4)&&(fe bl&&si ps)))&&(gF (qT n0) fs==(i:Int))):=by unfold gv;rw [hx'];rfl
   generalize (bW n0&&(decide (ps.length≤4)&&(fe bl&&si ps)))=b1 at c1 ef
   by_cases hi2:gF (qT n0) fs=(i:Int)
   ·rw [hi2] at c2 ef
    rw [beq_self_eq_true,Bool.and_true] at ef
    cases b1
    ·rw [show qS fs.length (gv fs)=false from je hi' ef]
     repeat' (first|(apply ay;first|refine bO ?_|(refine aV ?_ ?_<;>intro hG<;>(try cases hG))|refine ao ?_|refine ak ?_|refine bG ?_|refine bz ?_|refine aI c1 ?_|refine cJ ?_|refine dD ?_|refine bF ?_|refine aE ?_|refine dB ?_)|refine al ?_|refine ab ?_|refine aa fun C=>?_|refine ae ?_|refine ah ?_|refine ai ?_|refine az rfl ?_)
     exact d8
    ·repeat' (first|(apply ay;first|(refine aV ?_ ?_<;>intro hG<;>(try cases hG))|refine ao ?_|refine ak ?_|refine be ?_|refine aL ?_|refine bG ?_|refine bz ?_|refine aI c1 ?_|refine aI c2 ?_|refine cJ ?_|refine dD ?_|refine aH ?_|refine bF ?_|refine aE ?_|refine dB ?_)|refine al ?_|refine ab ?_|refine aa fun C=>?_|refine ae ?_|refine ah ?_|refine ai ?_)
     refine aj (by rfl) (fun hC=>by exfalso;simp at hC) fun hC=>?_
     repeat' (first|(apply ay;first|refine ao ?_|refine aC ?_)|refine al ?_|refine ab ?_|refine aa fun C=>?_|refine ai ?_)
     refine⟨N-1,i+1,omq,⟨omq,fun j hj=>?_⟩,?_⟩
     ·by_cases e:j=i
      ·subst e;exact ef
      ·exact hno j omq
     ·(refine aD _ _ rfl rfl ?_ ?_<;>exact tdy0)
   ·rw [show (gF (qT n0) fs==(i:Int))=false from beq_eq_false_iff_ne.2 hi2,Bool.and_false] at ef
    rw [show qS fs.length (gv fs)=false from je hi' ef]
    cases b1
    ·repeat' (first|(apply ay;first|refine bO ?_|(refine aV ?_ ?_<;>intro hG<;>(try cases hG))|refine ao ?_|refine ak ?_|refine bG ?_|refine bz ?_|refine aI c1 ?_|refine cJ ?_|refine dD ?_|refine bF ?_|refine aE ?_|refine dB ?_)|refine al ?_|refine ab ?_|refine aa fun C=>?_|refine ae ?_|refine ah ?_|refine ai ?_|refine az rfl ?_)
     exact d8
    ·repeat' (first|(apply ay;first|(refine aV ?_ ?_<;>intro hG<;>(try cases hG))|refine ao ?_|refine ak ?_|refine be ?_|refine aL ?_|refine bG ?_|refine bz ?_|refine aI c1 ?_|refine aI c2 ?_|refine cJ ?_|refine dD ?_|refine aH ?_|refine bF ?_|refine aE ?_|refine dB ?_)|refine al ?_|refine ab ?_|refine aa fun C=>?_|refine ae ?_|refine ah ?_|refine ai ?_)
     refine aj (by rfl) (fun hC=>?_) fun hC=>by exfalso;simp at hC;exact hi2 hC
     repeat' (first|(apply ay;refine ak ?_)|refine al ?_|refine ab ?_|refine aa fun C=>?_|refine ae ?_)
     exact d8
  ·have hi':¬i<fs.length:=by simpa using h1
   rw [show qS fs.length (gv fs)=true from jS fun j hj=>hno j omq]
   repeat' (first|(apply ay;refine ak ?_)|refine al ?_|refine ab ?_|refine aa fun C=>?_|refine ae ?_|refine au ?_)
   exact d8
 ·rw [show ((decide (rs.length≤10)&&decide (fs.length≤6))&&(bR&&qS fs.length (gv fs)))=false by
   cases bR
   ·rw [Bool.false_and,Bool.and_false]
   ·by_cases a1:rs.length≤10
    ·have a2:¬fs.length≤6:=fun a2=>h ⟨a1,a2,rfl⟩
     rw [show decide (fs.length≤6)=false from decide_eq_false a2,Bool.and_false,Bool.false_and]
    ·rw [show decide (rs.length≤10)=false from decide_eq_false a1,Bool.false_and,Bool.false_and]]
  cases bR
  all_goals
   refine av func39 rfl rfl ?_
   repeat' (first|(apply ay;first|refine bO ?_|(refine aV ?_ ?_<;>intro hG<;>(try cases hG))|refine ak ?_|refine be ?_|refine aL ?_|refine aI cR ?_|refine aY ?_|refine a8 ?_|refine aE ?_|refine bN ?_)|refine al ?_|refine ab ?_|refine aa fun C=>?_|refine ae ?_)
  all_goals first
   | (refine az rfl ?_
      repeat' (first|(apply ay;refine ak ?_)|refine al ?_|refine ab ?_|refine aa fun C=>?_|refine ae ?_)
      refine am ?_;refine bi rfl aM ⟨?_,rfl⟩;rfl)
   | (exfalso;simp only [decide_eq_true_iff,decide_eq_false_iff_not] at *;first|omega|(exact h ⟨omq,omq,trivial⟩)|(exact h ⟨omq,omq,rfl⟩))
   | (refine aj (by rfl) (fun hC=>?_) fun hC=>by exfalso;simp only [decide_eq_true_iff,decide_eq_false_iff_not] at *;first|omega|(exact h ⟨omq,omq,trivial⟩)|(exact h ⟨omq,omq,rfl⟩)
      skip
      refine am ?_;refine bi rfl aM ⟨?_,rfl⟩;rfl)
def TyL (T:TypeId)(k:Nat)(s:List E):Prop:=(∀x∈s,x.Ty prog T)∧(∀x∈s,x.enc.length=k)
theorem TyL.snoc {T:TypeId}{k:Nat}{s:List E}(h:TyL T k s){x:E}(hx:x.Ty prog T)(hk:x.enc.length=k):TyL T k (s++[x]):=by
 refine⟨fun y hy=>?_,fun y hy=>?_⟩
 ·rcases List.mem_append.1 hy with hy|hy
  ·exact h.1 y hy
  ·rw [List.mem_singleton] at hy;subst hy;exact hx
 ·rcases List.mem_append.1 hy with hy|hy
  ·exact h.2 y hy
  ·rw [List.mem_singleton] at hy;subst hy;exact hk
theorem TyL.nil {T:TypeId}{k:Nat}:TyL T k []:=⟨fun x hx=>absurd hx List.not_mem_nil,fun x hx=>absurd hx List.not_mem_nil⟩
open Classical in
noncomputable def mZ (T:TypeId)(k B:Nat)(s:List E):Nat:=if TyL T k s then s.length else B+1
theorem yw {T:TypeId}{k B:Nat}{s:List E}(h:mZ T k B s≤B):TyL T k s∧s.length≤B:=by
 unfold mZ at h
 split at h
 ·exact⟨‹_›,h⟩
 ·omega
theorem kQ {T:TypeId}{k B:Nat}{s:List E}(h:TyL T k s):mZ T k B s=s.length:=by unfold mZ;rw [if_pos h]
theorem yx {T:TypeId}{k B:Nat}{step:List E→E→List E}{ok:E→Prop}(h:∀s e,ok e→TyL T k s→TyL T k (step s e)∧(step s e).length≤s.length+1)(h':∀s e,TyL T k (step s e)→TyL T k s)(s:List E)(e:E)(he:ok e):mZ T k B (step s e)≤mZ T k B s+1:=by
 by_cases hs:TyL T k s
 ·obtain⟨h1,h2⟩:=h s e he hs
  rw [kQ hs,kQ h1];exact h2
 ·have h1:¬TyL T k (step s e):=fun hh=>hs (h' s e hh)
  unfold mZ
  rw [if_neg hs,if_neg h1]
  omega
theorem TyL.left {T:TypeId}{k:Nat}{s t:List E}(h:TyL T k (s++t)):TyL T k s:=⟨fun x hx=>h.1 x (List.mem_append_left _ hx),fun x hx=>h.2 x (List.mem_append_left _ hx)⟩
theorem zuQ {b:ByteArray}(h:b.size≤9223372036854775807):(E.str b).Ty prog 9:=by
 simp only [E.Ty]
 exact⟨underlying9,h⟩
theorem vY {e:E}(he:e.Ty prog 70):(zqQ e).size≤9223372036854775807:=by
 obtain⟨k0,n0,s0,xA,xc,l,rfl,-,-,h,-⟩:=aB he
 exact h
theorem m0 {s:List E}{e:E}(he:e.Ty prog 70)(hs:TyL 9 1 s):TyL 9 1 (gQ s e)∧(gQ s e).length≤s.length+1:=by
 refine⟨?_,vE s e⟩
 unfold gQ
 split
 ·split
  ·exact hs
  ·exact hs.snoc (zuQ (vY he)) rfl
 ·exact hs
theorem sD {s:List E}{e:E}(h:TyL 9 1 (gQ s e)):TyL 9 1 s:=by
 unfold gQ at h
 split at h
 ·split at h
  ·exact h
  ·exact h.left
 ·exact h
theorem zk2 {T:TypeId}{n k:Nat}{l:List AC}(h:ba l=true):ba [.ow T n k l]=true:=by simp [ba,clo,h]
def rowR (s:List E):List AC:=[.ow 9 s.length 1 (owL s)]
theorem yy {s:List E}(hs:TyL 9 1 s)(hl:s.length≤1048576){e:E}(he:e.Ty prog 70):Ctr prog 52 [.ag (acE e),.c (.pt 0 0)] [rowR s] (.tu []) [rowR (gQ s e)]:=by
 obtain⟨k0,n0,s0,xA,xc,l,rfl,-⟩:=aB he
 have cH:Ctr prog 53 [.c (.ro s.length 1 (acL s)),.c (.v (.string s0))] [] (.c (.v (.bool (iO s s0)))) []:=fQ hs.1 hs.2 omq s0
 have e1:gQ s (.agg [.int .i64 k0,.int .i64 n0,.str s0,.lst 4 70 xA xc l])=if k0=10∨k0=18 then (if iO s s0=true then s else s++[.str s0]) else s:=rfl
 rw [e1]
 unfold rowR
 by_cases hk:k0=10∨k0=18
 ·rw [if_pos hk]
  cases hb:iO s s0 with
  | true =>
   rw [hb] at cH
   rw [if_pos rfl]
   rcases hk with rfl|rfl
   all_goals
    refine av func52 rfl rfl ?_
    refine bK (jB 900 (i:=0) (pre:=[]) (post:=[]) rfl rfl rfl) ?_
    repeat' (first|((refine bK (dY (i:=0) (j:=900) rfl rfl rfl (pre:=[]) (post:=[]) rfl) ?_;refine ai ?_))|(apply ay;first|refine bO ?_|(refine aV ?_ ?_<;>intro hG<;>(try cases hG))|refine be ?_|refine aL ?_|refine aI cH ?_|refine aq ?_|refine bF ?_|refine aE ?_|refine bN ?_)|refine al ?_|refine ab ?_|refine aa fun C=>?_|refine ae ?_|refine aF rfl ?_)
    exact em (x:=.tu []) rfl rfl rfl (by first|rfl|(simp [o6,ba,clo,bj,aG,bk,bf,aZ];done)) rfl ⟨rfl,rfl⟩
  | false =>
   rw [hb] at cH
   rw [if_neg (by simp)]
   rcases hk with rfl|rfl
   all_goals
    refine av func52 rfl rfl ?_
    refine bK (jB 900 (i:=0) (pre:=[]) (post:=[]) rfl rfl rfl) ?_
    repeat' (first|((refine tY (dY (i:=0) (j:=22) rfl rfl rfl (pre:=[]) (post:=[]) rfl) ?_))|(apply ay;first|refine bO ?_|(refine aV ?_ ?_<;>intro hG<;>(try cases hG))|refine be ?_|refine aL ?_|refine aI cH ?_|refine iU ?_|refine cJ ?_|refine aq ?_|refine bF ?_|refine aE ?_|refine bN ?_|refine gG ?_)|refine al ?_|refine ab ?_|refine aa fun C=>?_|refine ae ?_|refine az rfl ?_)
    refine em (x:=.tu []) rfl rfl rfl (zk2 (aZ (bf _) rfl)) rfl ⟨rfl,?_⟩
    rw [fG,List.length_append];rfl
 ·rw [if_neg hk]
  have h1:(k0==10)=false:=by simpa using fun h=>hk (.inl h)
  have h2:(k0==18)=false:=by simpa using fun h=>hk (.inr h)
  refine av func52 rfl rfl ?_
  refine bK (jB 900 (i:=0) (pre:=[]) (post:=[]) rfl rfl rfl) ?_
  repeat' (first|((refine bK (dY (i:=0) (j:=900) rfl rfl rfl (pre:=[]) (post:=[]) rfl) ?_;refine ai ?_))|(apply ay;first|refine bO ?_|(refine aV ?_ ?_<;>intro hG<;>(try cases hG))|refine be ?_|refine aL ?_|refine aI cH ?_|refine iU ?_|refine cJ ?_|refine aq ?_|refine bF ?_|refine aE ?_|refine bN ?_|refine gG ?_)|refine al ?_|refine ab ?_|refine aa fun C=>?_|refine ae ?_|(refine aj (by rfl) ?_ ?_<;>intro hC<;>(try cases hC)))
  all_goals first
   | (exact em (x:=.tu []) rfl rfl rfl (by first|rfl|(simp [o6,ba,clo,bj,aG,bk,bf,aZ];done)) rfl ⟨rfl,rfl⟩)
   | (exfalso;simp_all;done)
theorem vZ:Tell 52 [.pt 0 0] rowR gQ (mZ 9 1 1048576) (fun _=>1) 1048576 (fun e=>e.Ty prog 70) :=
 ⟨zo3,fun s=>by simp [rowR,ba,clo,bf],fun _ _=>rfl,yx (fun s e he hs=>m0 he hs) (fun s e h=>sD h),fun s e he hB=>by
  have hB':mZ 9 1 1048576 s≤1048576:=by omega
  obtain⟨h1,h2⟩:=yw hB'
  exact yy h1 h2 he⟩
theorem Prt.T_ty {x:Prt}(h:x.Ok):∀z∈x.T,TyX 1048576 z:=by
 intro z hz
 unfold Prt.T at hz
 rcases List.mem_append.1 hz with hz|hz
 ·obtain⟨y,hy,hzy⟩:=List.mem_flatMap.1 hz
  exact pV ⟨h.wh y hy,h.wz y hy⟩ z hzy
 ·rw [pS] at hz
  obtain⟨y,hy,hzy⟩:=List.mem_flatMap.1 hz
  obtain⟨t,ht,hyt⟩:=List.mem_flatMap.1 hy
  have htz:=E.szL_mem ht
  have h9:=h.lz
  exact vO (pU ⟨h.l t ht,omq⟩ y hyt) z hzy
theorem v6 {rs fs:List E}(h:PrgOk rs fs):∀z∈lT rs fs,TyX 1048576 z:=by
 intro z hz
 rw [lX] at hz
 obtain⟨x,hx,hzx⟩:=List.mem_flatMap.1 hz
 exact Prt.T_ty (pY h x hx) z hzx
def v7 (e:E):List E:=match e with | .agg [.lst _ _ _ _ rs,.lst _ _ _ _ fs]=>if eW rs fs=true then ym rs fs else []|_=>[]
theorem m4 {e:E}(he:e.Ty prog 27)(hz:e.sz≤1048576):Ctr prog 14 [.ag (acE e)] [] (.c (.ow 9 (v7 e).length 1 (owL (v7 e)))) []:=by
 have cp:=oD he hz
 obtain⟨rA,rc,rs,fA,fc,fs,rfl,hp⟩:=vS he hz
 rw [show v7 (.agg [.lst 6 87 rA rc rs,.lst 3 89 fA fc fs])=if eW rs fs=true then ym rs fs else [] from rfl]
 replace cp:Ctr prog 39 [.ag [.ro rs.length 6 (acL rs),.ro fs.length 3 (acL fs)]] [] (.c (.v (.bool (eW rs fs)))) []:=cp
 show Ctr _ _ [.ag [.ro rs.length 6 (acL rs),.ro fs.length 3 (acL fs)]] _ _ _
 cases hb:eW rs fs with
 | false =>
  rw [hb] at cp
  rw [if_neg (by simp)]
  refine av func14 rfl rfl ?_
  repeat' (first|(apply ay;first|refine ak ?_|refine bz ?_|refine aI cp ?_|refine bF ?_|refine bN ?_)|refine al ?_|refine ab ?_|refine aa fun C=>?_|refine ae ?_|refine az rfl ?_)
  refine bK (qv 90000 (t:=2) 9 1 rfl rfl) ?_
  refine am ?_;refine bi rfl (nE (bZ rfl rfl rfl cls0 bq)) ⟨?_,rfl⟩
  rfl
 | true =>
  rw [hb] at cp
  rw [if_pos rfl]
  have hlen:=mS rs fs
  have hpz:=hp.z
  have cE:=ss vZ hp (fun z hz=>(v6 hp z hz).1) [] (by rw [kQ TyL.nil,yp];simp only [List.length_nil];omega)
  rw [show (lT rs fs).foldl gQ []=ym rs fs from rfl] at cE
  unfold rowR at cE
  refine av func14 rfl rfl ?_
  repeat' (first|(apply ay;first|refine ak ?_|refine bz ?_|refine aI cp ?_|refine bF ?_|refine bN ?_)|refine al ?_|refine ab ?_|refine aa fun C=>?_|refine ae ?_)
  refine aF rfl ?_
  refine ai ?_
  refine ae ?_
  refine aa fun C=>?_
  repeat' (first|(apply ay;first|(apply f_as;first|refine ak ?_|refine aU ?_)|refine aL ?_|refine de ?_|refine bG ?_|refine bz ?_|refine n_ld ?_|(apply f_no;first|refine bF ?_|refine aU ?_)|refine dB ?_|refine bN ?_|refine aU ?_)|refine al ?_|refine ab ?_)
  refine bK (dR 901 (i:=3) 9 1 rfl rfl (pre:=[]) (post:=[]) rfl) ?_
  refine bK (dY (i:=3) (j:=901) rfl rfl rfl (pre:=[]) (post:=[]) rfl) ?_
  refine ae ?_
  refine aa fun C=>?_
  repeat' (first|(apply ay;first|(apply f_as;first|refine ak ?_|refine aU ?_)|refine aL ?_|refine de ?_|refine bG ?_|refine bz ?_|refine n_ld ?_|refine bd 3 (cE) ?_|(apply f_no;first|refine bF ?_|refine aU ?_)|refine dB ?_|refine bN ?_|refine aU ?_)|refine al ?_|refine ab ?_)
  refine bK (jB 902 (i:=3) rfl rfl (pre:=[]) (post:=[]) rfl) ?_
  repeat' (first|(apply ay;first|refine ak ?_|refine aL ?_)|refine al ?_|refine ab ?_|refine aa fun C=>?_|refine ae ?_)
  refine am ?_;refine bi rfl (nE (bZ rfl rfl rfl cls0 bq)) ⟨?_,rfl⟩
  rfl
theorem p6 {k n:Int}{s:ByteArray}(hk:(Lit.int .i64 k).wf=true)(hn:(Lit.int .i64 n).wf=true)(hs:s.size≤9223372036854775807):(valE k n s).Ty prog 36 :=
 E.Ty.mk_agg underlying36 (E.TyF.mk_cons (by simp only [E.Ty];exact⟨underlying3,hk⟩) (E.TyF.mk_cons (by simp only [E.Ty];exact⟨underlying3,hn⟩) (E.TyF.mk_cons (zuQ hs) E.TyF.mk_nil)))
theorem v8 {s:List E}(hs:TyL 36 3 s){k n:Int}{b:ByteArray}(h:(valE k n b).Ty prog 36):TyL 36 3 (sJ s k n b):=by
 unfold sJ
 split
 ·exact hs
 ·exact hs.snoc h rfl
theorem wa:TyL 36 3 lU:=by
 refine⟨fun x hx=>?_,fun x hx=>?_⟩
 ·simp only [lU,List.mem_cons,List.not_mem_nil,or_false] at hx
  rcases hx with rfl|rfl|rfl<;>exact p6 (by rfl) (by rfl) (by decide)
 ·simp only [lU,List.mem_cons,List.not_mem_nil,or_false] at hx
  rcases hx with rfl|rfl|rfl<;>rfl
end Go.Proofs.YtmnneflenebgmaaGreat
