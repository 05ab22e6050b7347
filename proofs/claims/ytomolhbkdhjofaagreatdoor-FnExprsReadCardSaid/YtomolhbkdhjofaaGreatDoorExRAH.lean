/- T -/
import Derived.Test.YtomolhbkdhjofaaGreatDoorExRAG
set_option maxHeartbeats 0
set_option maxRecDepth 100000
namespace Go.Proofs.YtomolhbkdhjofaaGreatDoor
open Go.RowKit Go.Proofs.Tryz
section
variable {ops:Array Oper}{Q:Exit→Act→World→Prop}{C:Ctx}{H:List (Nat×Oper×Inf)}{i:Nat}{r:List Nat}{dr:Bool}
variable {tm:Nat→AV}{hp:Nat→Option Row}{gn L:Nat}{us:List Nat}
theorem qe {t:Nat}{gd:Option (Nat×Bool)}{ps:String}{af:Array Edge}{ty ty':TypeId}{xo yo:Operand}{a0 a1 b0 b1:Int}{a2 b2:ByteArray}{q:Bool}(hq:(!((a0==b0)&&((a1==b1)&&(a2.toList==b2.toList))))=q)(h:Walk prog ops Q C dr (bK dr (i,(⟨some t,.binOp .neq 63 xo yo ty',ty,ps,af,gd⟩:Oper),⟨fpO (AS.ev ⟨tm,hp,gn,us,L⟩) (⟨some t,.binOp .neq 63 xo yo ty',ty,ps,af,gd⟩:Oper),[],[],.c (.v (.bool q))⟩) H) r ⟨upd tm t (.c (.v (.bool q))),hp,gn,us,L⟩)
 (ht:Nat.blt t L=true:=by exact rfl) (hg:gw ops tm (⟨some t,.binOp .neq 63 xo yo ty',ty,ps,af,gd⟩:Oper)=some true:=by exact rfl) (hx:AS.ev ⟨tm,hp,gn,us,L⟩ xo=.ag [.v (.int .i64 a0),.v (.int .i64 a1),.v (.string a2)]:=by exact rfl) (hy:AS.ev ⟨tm,hp,gn,us,L⟩ yo=.ag [.v (.int .i64 b0),.v (.int .i64 b1),.v (.string b2)]:=by exact rfl)
 (hc:chk dr ops i (⟨some t,.binOp .neq 63 xo yo ty',ty,ps,af,gd⟩:Oper) ⟨fpO (AS.ev ⟨tm,hp,gn,us,L⟩) (⟨some t,.binOp .neq 63 xo yo ty',ty,ps,af,gd⟩:Oper),[],[],.c (.v (.bool q))⟩ H=true:=by first|(with_reducible exact bv)|kernel_rfl):WalkO prog ops Q C dr H i (⟨some t,.binOp .neq 63 xo yo ty',ty,ps,af,gd⟩:Oper) r ⟨tm,hp,gn,us,L⟩ :=
 ⟨fun hop=>w_eqS (xs:=[.int .i64 a0,.int .i64 a1,.string a2]) (ys:=[.int .i64 b0,.int .i64 b1,.string b2]) (b:=!q) (q:=q) hop rfl rfl ht hg krq (by rw [hx];rfl) (by rw [hy];rfl) (fun w=>by rw [l9,←hq,Bool.not_not]) (.inr ⟨rfl,by rw [Bool.not_not]⟩) hc h⟩
end
theorem yr (a b:T3):((a.1==b.1)&&((a.2.1==b.2.1)&&(a.2.2.toList==b.2.2.toList)))=decide (a=b):=by
 rw [nd,Bool.eq_iff_iff]
 simp only [baq,beq_iff_eq,dqt]
 exact⟨fun ⟨h1,h2,h3⟩=>Prod.ext h1 (Prod.ext h2 h3),fun h=>by rw [h];exact⟨rfl,rfl,rfl⟩⟩
theorem zg1 {a b:List T3}{k:Nat}{x y:T3}(h:a[k]? = some x)(h':b[k]? = some y)(e:x≠y):a≠b:=fun hab=>by
 rw [hab,h'] at h
 exact e (Option.some.inj h).symm
theorem yt {a b:List T3}(hl:a.length=b.length)(h:∀(j:Nat) x y,j<a.length→a[j]? = some x→b[j]? = some y→x=y):a=b:=by
 refine List.ext_getElem? fun j=>?_
 by_cases hj:j<a.length
 ·rw [List.getElem?_eq_getElem hj,List.getElem?_eq_getElem omq]
  exact congrArg some (h j _ _ hj (List.getElem?_eq_getElem hj) (List.getElem?_eq_getElem omq))
 ·rw [List.getElem?_eq_none omq,List.getElem?_eq_none omq]
theorem uS {la lb:List T3}(hla:la.length≤1048576)(hlb:lb.length≤1048576):Ctr prog 52 [.c (.ro (la.map T3.E).length 3 (acL (la.map T3.E))),.c (.ro (lb.map T3.E).length 3 (acL (lb.map T3.E)))] [] (.c (.v (.bool (decide (la=lb))))) []:=by
 have hka:=tks_enc' (l:=la)
 have hkb:=tks_enc' (l:=lb)
 have hl1:(la.map T3.E).length=la.length:=List.length_map ..
 have hl2:(lb.map T3.E).length=lb.length:=List.length_map ..
 refine az func52 rfl rfl ?_
 repeat' (first|(apply ay;first|refine ak ?_|refine ai ?_|refine bC ?_|refine aN ?_)|refine aj ?_|refine ab ?_|refine aa fun C=>?_|refine ac ?_)
 refine ae rqf (fun h1=>?_) fun h1=>?_
 ·repeat' (first|(apply ay;refine ai ?_)|refine aj ?_|refine ab ?_|refine aa fun C=>?_|refine ac ?_)
  refine am ?_;refine bA rfl aJ ⟨?_,rfl⟩
  have hne:la≠lb:=fun h=>by
   have h1:(((la.map T3.E).length:Int) != ((lb.map T3.E).length:Int))=true:=h1
   rw [h] at h1
   simp at h1
  rw [decide_eq_false hne]
 ·have hl:la.length=lb.length:=by
   have h1:(((la.map T3.E).length:Int) != ((lb.map T3.E).length:Int))=false:=h1
   rw [hl1,hl2] at h1
   have:((la.length:Nat):Int)=((lb.length:Nat):Int):=by simpa using h1
   omega
  repeat' (first|(apply ay;first|refine ak ?_|refine bC ?_)|refine aj ?_|refine ab ?_|refine aa fun C=>?_|refine ac ?_|refine ah ?_|refine al ?_)
  refine aY (fun k:Nat=>⟨ft [(0,.c (.ro (la.map T3.E).length 3 (acL (la.map T3.E)))),(1,.c (.ro (lb.map T3.E).length 3 (acL (lb.map T3.E)))),(12,.c (.v (.int .i64 (la.map T3.E).length))),(13,.c (.v (.int .i64 k)))],eW [],0,[],26⟩)
   (fun N k=>k+N=la.length∧∀j x y,j<k→la[j]? = some x→lb[j]? = some y→x=y) la.length 0 ⟨omq,fun j _ _ hj=>absurd hj (Nat.not_lt_zero _)⟩ ?_ ?_
  ·(refine aL _ _ rfl rfl ?_ ?_<;>exact tdy0)
  rintro N k ⟨hN,hno⟩
  try dsimp only
  repeat' (first|(apply ay;refine aA ?_)|refine aj ?_|refine ab ?_|refine aa fun C=>?_|refine ac ?_)
  refine ae rqf (fun h2=>?_) fun h2=>?_
  ·have hk':k<la.length:=by
    have h2:decide ((k:Int)<((la.map T3.E).length:Int))=true:=h2
    rw [hl1] at h2
    simpa using h2
   obtain⟨⟨x0,x1,x2⟩,hx⟩:∃x,la[k]? = some x:=⟨_,List.getElem?_eq_getElem hk'⟩
   obtain⟨⟨y0,y1,y2⟩,hy⟩:∃y,lb[k]? = some y:=⟨_,List.getElem?_eq_getElem omq⟩
   have hxe:(la.map T3.E)[k]? = some (E.agg [.int .i64 x0,.int .i64 x1,.str x2]):=by rw [List.getElem?_map,hx];rfl
   have hye:(lb.map T3.E)[k]? = some (E.agg [.int .i64 y0,.int .i64 y1,.str y2]):=by rw [List.getElem?_map,hy];rfl
   by_cases he:((x0,x1,x2):T3)=(y0,y1,y2)
   ·have hq:(!((x0==y0)&&((x1==y1)&&(x2.toList==y2.toList))))=false:=by rw [show ((x0==y0)&&((x1==y1)&&(x2.toList==y2.toList)))=decide (((x0,x1,x2):T3)=(y0,y1,y2)) from yr (x0,x1,x2) (y0,y1,y2),decide_eq_true he];rfl
    repeat' (first|(apply da;refine qe hq ?_)|(apply ay;first|refine ak ?_|refine ai ?_|refine aw ?_)|refine aj ?_|refine ab ?_|(apply da;first|(apply dC;refine aD ?_)|refine dQ ?_|refine iY ?_)|refine aj ?_|refine ab ?_|refine aa fun C=>?_|refine av krq krq fun C=>?_|refine ac ?_|refine ah ?_|refine al ?_|refine ar rfl ?_)
    refine⟨N-1,k+1,omq,⟨omq,fun j p q hj hp hq=>?_⟩,?_⟩
    ·by_cases e:j=k
     ·rw [e,hx] at hp;rw [e,hy] at hq;injection hp with hp;injection hq with hq;subst hp hq;exact he
     ·exact hno j p q omq hp hq
    ·(refine aL _ _ rfl rfl ?_ ?_<;>exact tdy0)
   ·have hq:(!((x0==y0)&&((x1==y1)&&(x2.toList==y2.toList))))=true:=by rw [show ((x0==y0)&&((x1==y1)&&(x2.toList==y2.toList)))=decide (((x0,x1,x2):T3)=(y0,y1,y2)) from yr (x0,x1,x2) (y0,y1,y2),decide_eq_false he];rfl
    repeat' (first|(apply da;refine qe hq ?_)|(apply ay;first|refine ak ?_|refine ai ?_)|refine aj ?_|refine ab ?_|(apply da;first|(apply dC;refine aD ?_)|refine dQ ?_|refine iY ?_)|refine aj ?_|refine ab ?_|refine aa fun C=>?_|refine av krq krq fun C=>?_|refine ac ?_|refine ah ?_|refine al ?_|refine aq rfl ?_)
    refine am ?_;refine bA rfl aJ ⟨?_,rfl⟩
    rw [decide_eq_false (zg1 hx hy he)]
  ·have hk':¬k<la.length:=by
    have h2:decide ((k:Int)<((la.map T3.E).length:Int))=false:=h2
    rw [hl1] at h2
    simpa using h2
   repeat' (first|(apply ay;refine ai ?_)|refine aj ?_|refine ab ?_|refine aa fun C=>?_|refine ac ?_|refine aE ?_)
   refine am ?_;refine bA rfl aJ ⟨?_,rfl⟩
   rw [decide_eq_true (yt hl fun j x y hj hx hy=>hno j x y omq hx hy)]
theorem hZ (s:ByteArray):(gT s).length≤2000:=by
 obtain⟨l,r',e,-,hl,-⟩:=pU s
 unfold gT
 rw [List.length_map,e,List.length_map]
 exact hl
def stB (s t:ByteArray):Bool:=decide ((i6 s).2 = -1)&&(decide ((i6 t).2 = -1)&&decide (gT s=gT t))
theorem uT {s t:ByteArray}(hs:s.size≤1048576)(ht:t.size≤1048576):Ctr prog 27 [.c (.v (.string s)),.c (.v (.string t))] [] (.c (.v (.bool (stB s t)))) []:=by
 have c1:=iH hs
 have c2:=iH ht
 rw [(dj s).2] at c1
 rw [(dj t).2] at c2
 have l1:=hZ s
 have l2:=hZ t
 have c3:=uS (la:=gT s) (lb:=gT t) omq omq
 unfold stB
 generalize (i6 s).2=p1 at *
 generalize (i6 t).2=p2 at *
 generalize gT s=la at *
 generalize gT t=lb at *
 have e1:(p1==-1)=decide (p1 = -1):=by rw [Bool.eq_iff_iff];simp
 have e2:(p2==-1)=decide (p2 = -1):=by rw [Bool.eq_iff_iff];simp
 refine az func27 rfl rfl ?_
 by_cases h1:p1 = -1
 ·subst h1
  by_cases h2:p2 = -1
  ·subst h2
   repeat' (first|(apply ay;first|(refine aK ?_ ?_<;>intro hG<;>(try cases hG))|refine ak ?_|refine cI (v:=.tu _) ?_|refine ai ?_|refine db c1 ?_|refine db c2 ?_|refine aH c3 ?_|refine ao ?_|refine aB ?_|refine b9 ?_)|refine aj ?_|refine ab ?_|refine aa fun C=>?_|refine ac ?_)
   refine am ?_;refine bA rfl aJ ⟨?_,rfl⟩;simp
  ·rw [decide_eq_false h2]
   repeat' (first|(apply ay;first|refine bH ?_|(refine aK ?_ ?_<;>intro hG<;>(try cases hG))|refine ak ?_|refine cI (v:=.tu _) ?_|refine ai ?_|refine db c1 ?_|refine db c2 ?_|refine aH c3 ?_|refine ao ?_|refine aB ?_|refine b9 ?_)|refine aj ?_|refine ab ?_|refine aa fun C=>?_|refine ac ?_)
   all_goals first
    | (exfalso;exact h2 (eq_of_beq hG))
    | (refine am ?_;refine bA rfl aJ ⟨?_,rfl⟩;simp;done)
    | (refine am ?_;refine bA rfl aJ ⟨?_,rfl⟩;clear c1 c2 c3;simp_all;done)
 ·rw [decide_eq_false h1]
  repeat' (first|(apply ay;first|refine bH ?_|(refine aK ?_ ?_<;>intro hG<;>(try cases hG))|refine ak ?_|refine cI (v:=.tu _) ?_|refine ai ?_|refine db c1 ?_|refine db c2 ?_|refine aH c3 ?_|refine ao ?_|refine aB ?_|refine b9 ?_)|refine aj ?_|refine ab ?_|refine aa fun C=>?_|refine ac ?_)
  all_goals first
   | (exfalso;exact h1 (eq_of_beq hG))
   | (refine am ?_;refine bA rfl aJ ⟨?_,rfl⟩;simp;done)
   | (refine am ?_;refine bA rfl aJ ⟨?_,rfl⟩;clear c1 c2 c3;simp_all;done)
theorem rtq3 {p:Prop}(h:p:=by refine am ?_;refine bA rfl (cg (aG (bi (aO rfl (aO rfl (aO rfl (bE rfl rfl rfl cls0 aQ))))) (aG aJ bj))) ⟨?_,rfl⟩;rfl):p:=h
theorem zh3:∀(f:Nat) (e:E),FnX e→lw 100 dV f e≤100→e.sz+1≤202*lw 100 dV f e
 | 0,e,_,h=>absurd h (by show ¬100+1≤100;omega)
 | f+1,e,hf,h=>by
  have h1:gpS 100 (lw 100 dV f) (dV e) 1≤100:=h
  have h2:=rf _ _ h1
  show e.sz+1≤202*gpS 100 (lw 100 dV f) (dV e) 1
  rw [h2]
  have hm:=mF _ _ h1
  cases hf with
  | mk k n s l hk hn hs hl =>
  have h5:dV (xE k n s l)=l:=rfl
  rw [h5] at hm ⊢
  have key:∀r:List E,(∀x∈r,x∈l)→E.szL r+r.length≤202*sumC (lw 100 dV f) r:=fun r=>by
   induction r with
   | nil=>intro _;exact Nat.zero_le _
   | cons x r ih =>
    intro hr
    have i1:=ih fun y hy=>hr y (mco _ hy)
    have i2:=zh3 f x (hl x (hr x (mcs ..))) (hm x (hr x (mcs ..)))
    simp only [E.szL,List.length_cons,sumC]
    omega
  have:=key l fun _ h=>h
  rw [fB]
  omega
theorem mR {e:E}(hf:FnX e)(hb:ff e=true):e.sz≤20300∧(txE e).size≤1048576:=by
 unfold ff at hb
 rw [baq,dqt] at hb
 have h1:lw 100 dV 10 e≤100:=hb.1
 have h2:=zh3 10 e hf h1
 have h3:=jS hf.ty.1
 omega
theorem iI {e:E}(he:e.Ty prog 26)(hsz:e.sz≤1048576)(hb:ff e=true):Ctr prog 8 [.ag (acE e)] [] (.c (.v (.string (txE e)))) []:=by
 have c1:=iA he hsz
 have c2:=nJ (e.sz+1) e he omq omq (lC hb)
 rw [hb] at c1
 generalize txE e=T at *
 obtain⟨k0,n0,s0,xA,xc,l,rfl,-⟩:=aW he
 refine az func8 rfl rfl ?_
 repeat' (first|(apply ay;first|refine ai ?_|refine bM ?_|refine aH c1 ?_|refine aH c2 ?_|refine bI ?_|refine cE ?_)|refine aj ?_|refine ab ?_|refine aa fun C=>?_|refine ac ?_|refine al ?_|refine ar rfl ?_)
 exact eo
def pxI (s:ByteArray):Bool:=!(rdI s).2.b&&(ff (rdI s).1&&stB (txE (rdI s).1) s)
theorem rG (s:ByteArray):pxI s=true↔acI s:=by
 unfold pxI acI stB
 simp only [baq,bnt,dqt]
 rw [(dj s).2,(dj (txE (rdI s).1)).2]
 constructor
 ·rintro ⟨h1,h2,h3,h4,h5⟩;exact⟨h1,h2,h3,h4,by rw [h5]⟩
 ·rintro ⟨h1,h2,h3,h4,h5⟩;exact⟨h1,h2,h3,h4,zd3 h5⟩
def pxE (s:ByteArray):E:=if pxI s=true then (rdI s).1 else zE
theorem zi3 (s:ByteArray):PI (gT s) ((gT s).length+12) ⟨0,false⟩ (rdI s).1 (rdI s).2:=x9 (dj s).1 _ _ (fun _=>Nat.zero_le _)
theorem mS {s:ByteArray}(hs:s.size≤1048576):Ctr prog 11 [.c (.v (.string s))] [] (.tu [.ag (owE (pxE s)),.c (.v (.bool (pxI s)))]) []:=by
 have c1:=iH hs
 rw [(dj s).2] at c1
 have hl:=hZ s
 have k2:=yp (hZ s) (dj s).1 ((gT s).length+12) omq ⟨0,false⟩ (fun _=>Nat.zero_le _) (fun _=>by dsimp only;omega)
 rw [show exI (gT s) ((gT s).length+12) ⟨0,false⟩=rdI s from rfl] at k2
 have hp:=zi3 s
 have hn:=hp.n
 have hf:=hp.fine
 have c5:ff (rdI s).1=true→Ctr prog 27 [.c (.v (.string (txE (rdI s).1))),.c (.v (.string s))] [] (.c (.v (.bool (stB (txE (rdI s).1) s)))) []:=fun h=>uT (mR hf h).2 hs
 have c4:ff (rdI s).1=true→Ctr prog 8 [.ag (acE (rdI s).1)] [] (.c (.v (.string (txE (rdI s).1)))) []:=fun h=>iI hf.ty.1 (by have:=(mR hf h).1;omega) h
 have c3:(rdI s).2.b=false→Ctr prog 10 [.ag (acE (rdI s).1)] [] (.c (.v (.bool (ff (rdI s).1)))) []:=fun h=>by
  have h0:(rdI s).2.b.toNat=0:=by rw [h];rfl
  have h1:=hn.2.2.1 h0
  dsimp only at h1
  exact iA hf.ty.1 omq
 unfold pxE pxI
 clear hn hp
 generalize rdI s=x at *
 obtain⟨e,⟨a,b⟩⟩:=x
 dsimp only at *
 generalize gT s=L at *
 generalize (i6 s).2=p at *
 generalize stB (txE e) s=st at *
 generalize txE e=T at *
 generalize ff e=eb at *
 cases hf with
 | mk k n u l _ _ _ _ =>
 unfold dX at k2
 dsimp only at k2
 refine az func11 rfl rfl ?_
 refine ac ?_
 refine aa fun C=>?_
 repeat' (first|(apply ay;first|refine bH ?_|refine n_sk0 ?_|(apply tX;first|(refine aK ?_ ?_<;>intro hG<;>(try cases hG))|refine ak ?_|refine cI (v:=.ag _) ?_|refine cI (v:=.tu _) ?_|refine au ?_)|(apply tY;first|refine ai ?_|refine fa (v:=.ag _) ?_|refine fa (v:=.tu _) ?_|refine au ?_)|refine bf ?_|refine iZ ?_|refine aI ?_|refine dD ?_|refine cX ?_|refine bM ?_|refine qi ?_|(apply ub;first|refine bC ?_|refine a7 ?_|refine cJ ?_|refine dz ?_|refine dz (hnu:=bytC_noUn _) ?_|refine n_app0 ?_|refine n_app0 (hnu:=bytC_noUn _) ?_|refine au ?_)|refine bh ?_|refine n_sto ?_|(apply mW;first|refine gJ ?_|refine eG ?_|refine au ?_)|(apply j6;first|refine ao ?_|refine aR ?_|refine aC ?_|refine eM ?_|refine au ?_)|(apply j7;first|refine aN ?_|refine cH ?_|refine dM ?_|refine eH ?_|refine au ?_)|(apply j8;first|refine aA ?_|refine n_lss_u8 ?_|refine au ?_)|(apply j9;first|refine bp ?_|refine n_leq_u8 ?_|refine au ?_)|(apply ka;first|refine aX ?_|refine n_gtr_u8 ?_|refine au ?_)|(apply kb;first|refine bX ?_|refine n_geq_u8 ?_|refine au ?_)|(apply ji;first|refine aw ?_|refine dI ?_|refine au ?_)|(apply uc;first|refine bI ?_|refine au ?_)|(apply tZ;first|refine aB ?_|refine fb (v:=.ag _) ?_|refine fb (v:=.tu _) ?_|refine au ?_)|(apply ua;first|refine b9 ?_|refine dA (v:=.ag _) ?_|refine dA (v:=.tu _) ?_|refine au ?_)|(apply qj;first|refine cu ?_|refine dh ?_|refine au ?_)|(apply si;first|refine dc ?_|refine jC ?_|refine gq ?_|refine n_cvs ?_|refine n_cvr ?_|refine au ?_)|refine bJ ?_|refine cE ?_|refine dT ?_|refine bV ?_|refine fy ?_|refine gK ?_|refine e8 ?_|refine au ?_|refine n_mv ?_)|refine aj ?_|refine ab ?_|(apply da;first|refine fg ?_|refine o_sk0 ?_|(refine e7 ?_ ?_<;>intro hG<;>(try cases hG))|(apply dC;refine aD ?_)|(apply iu;refine aD ?_)|refine dZ ?_|refine ga ?_|(apply tU;first|refine bW ?_|refine d7 ?_|refine dQ ?_|refine gI ?_|refine aD ?_|refine se ?_)|(apply tT;first|refine dt ?_|refine dJ ?_|refine gp ?_|refine eT ?_|refine eT (hnu:=bytC_noUn _) ?_|refine o_app0 ?_|refine o_app0 (hnu:=bytC_noUn _) ?_|refine aD ?_)|refine li ?_|refine o_sto ?_|(apply tV;first|refine iY ?_|refine jB ?_|refine aD ?_)|(apply fF;first|refine cP ?_|refine cS ?_|refine dq ?_|refine gD ?_|refine aD ?_)|(apply tW;first|refine dK ?_|refine gk ?_|refine o_cvs ?_|refine o_cvr ?_|refine aD ?_)|refine pi ?_|refine sd ?_|refine nu ?_|refine eU ?_|refine ir ?_|refine gZ ?_|refine gC ?_|refine aD ?_|refine o_mv ?_)|refine aj ?_|refine ab ?_)
 refine ac ?_
 refine aa fun C=>?_
 repeat' (first|(apply ay;first|refine bH ?_|refine n_sk0 ?_|(apply tX;first|(refine aK ?_ ?_<;>intro hG<;>(try cases hG))|refine ak ?_|refine cI (v:=.ag _) ?_|refine cI (v:=.tu _) ?_|refine au ?_)|(apply tY;first|refine ai ?_|refine fa (v:=.ag _) ?_|refine fa (v:=.tu _) ?_|refine au ?_)|refine bf ?_|refine iZ ?_|refine aI ?_|refine dD ?_|refine cX ?_|refine bM ?_|refine qi ?_|refine aH c1 ?_|refine db c1 ?_|(apply ub;first|refine bC ?_|refine a7 ?_|refine cJ ?_|refine dz ?_|refine dz (hnu:=bytC_noUn _) ?_|refine n_app0 ?_|refine n_app0 (hnu:=bytC_noUn _) ?_|refine au ?_)|refine bh ?_|refine n_sto ?_|(apply mW;first|refine gJ ?_|refine eG ?_|refine au ?_)|(apply j6;first|refine ao ?_|refine aR ?_|refine aC ?_|refine eM ?_|refine au ?_)|(apply j7;first|refine aN ?_|refine cH ?_|refine dM ?_|refine eH ?_|refine au ?_)|(apply j8;first|refine aA ?_|refine n_lss_u8 ?_|refine au ?_)|(apply j9;first|refine bp ?_|refine n_leq_u8 ?_|refine au ?_)|(apply ka;first|refine aX ?_|refine n_gtr_u8 ?_|refine au ?_)|(apply kb;first|refine bX ?_|refine n_geq_u8 ?_|refine au ?_)|(apply ji;first|refine aw ?_|refine dI ?_|refine au ?_)|(apply uc;first|refine bI ?_|refine au ?_)|(apply tZ;first|refine aB ?_|refine fb (v:=.ag _) ?_|refine fb (v:=.tu _) ?_|refine au ?_)|(apply ua;first|refine b9 ?_|refine dA (v:=.ag _) ?_|refine dA (v:=.tu _) ?_|refine au ?_)|(apply qj;first|refine cu ?_|refine dh ?_|refine au ?_)|(apply si;first|refine dc ?_|refine jC ?_|refine gq ?_|refine n_cvs ?_|refine n_cvr ?_|refine au ?_)|refine bJ ?_|refine cE ?_|refine dT ?_|refine bV ?_|refine fy ?_|refine gK ?_|refine e8 ?_|refine au ?_|refine n_mv ?_)|refine aj ?_|refine ab ?_|(apply da;first|refine fg ?_|refine o_sk0 ?_|(refine e7 ?_ ?_<;>intro hG<;>(try cases hG))|(apply dC;refine aD ?_)|(apply iu;refine aD ?_)|refine dZ ?_|refine ga ?_|(apply tU;first|refine bW ?_|refine d7 ?_|refine dQ ?_|refine gI ?_|refine aD ?_|refine se ?_)|refine ei c1 ?_|(apply tT;first|refine dt ?_|refine dJ ?_|refine gp ?_|refine eT ?_|refine eT (hnu:=bytC_noUn _) ?_|refine o_app0 ?_|refine o_app0 (hnu:=bytC_noUn _) ?_|refine aD ?_)|refine li ?_|refine o_sto ?_|(apply tV;first|refine iY ?_|refine jB ?_|refine aD ?_)|(apply fF;first|refine cP ?_|refine cS ?_|refine dq ?_|refine gD ?_|refine aD ?_)|(apply tW;first|refine dK ?_|refine gk ?_|refine o_cvs ?_|refine o_cvr ?_|refine aD ?_)|refine pi ?_|refine sd ?_|refine nu ?_|refine eU ?_|refine ir ?_|refine gZ ?_|refine gC ?_|refine aD ?_|refine o_mv ?_)|refine aj ?_|refine ab ?_)
 refine bc (zt8 (t:=4) (j:=1100) rfl rfl (mQ _)) ?_
 cases b with
 | true =>
  rw [show (!true&&(eb&&st))=false from rfl,if_neg (by simp)]
  repeat' (first|(apply ay;first|refine bH ?_|(refine aK ?_ ?_<;>intro hG<;>(try cases hG))|refine ak ?_|refine ai ?_|refine bf ?_|refine aI ?_|refine aF 15 (k2) ?_ (hl:=bF rqf cA)|refine bh ?_|refine aB ?_|refine bJ ?_|refine cE ?_|refine au ?_)|refine aj ?_|refine ab ?_|refine aa fun C=>?_|refine ac ?_|refine aq rfl ?_)
  refine bc (cR 90000 (i:=2) 26 4 rfl rfl (pre:=[_,_,_]) (post:=[]) rfl) ?_
  exact rtq3
 | false =>
  have c3:=c3 rfl
  cases eb with
  | false =>
   rw [show (!false&&(false&&st))=false from rfl,if_neg (by simp)]
   repeat' (first|(apply ay;first|refine bH ?_|(refine aK ?_ ?_<;>intro hG<;>(try cases hG))|refine ak ?_|refine ai ?_|refine bf ?_|refine aI ?_|refine bM ?_|refine aF 15 (k2) ?_ (hl:=bF rqf cA)|refine aH c3 ?_|refine bh ?_|refine bI ?_|refine aB ?_|refine bJ ?_|refine cE ?_|refine au ?_)|refine aj ?_|refine ab ?_|refine aa fun C=>?_|refine ac ?_|refine aq rfl ?_)
   refine bc (cR 90000 (i:=2) 26 4 rfl rfl (pre:=[_,_,_]) (post:=[]) rfl) ?_
   exact rtq3
  | true =>
   have c4:=c4 rfl
   have c5:=c5 rfl
   cases st with
   | false =>
    rw [show (!false&&(true&&false))=false from rfl,if_neg (by simp)]
    repeat' (first|(apply ay;first|(refine aK ?_ ?_<;>intro hG<;>(try cases hG))|refine ak ?_|refine ai ?_|refine bf ?_|refine aI ?_|refine bM ?_|refine aF 15 (k2) ?_ (hl:=bF rqf cA)|refine aH c3 ?_|refine aH c4 ?_|refine aH c5 ?_|refine bh ?_|refine bI ?_|refine aB ?_|refine bJ ?_|refine cE ?_|refine au ?_)|refine aj ?_|refine ab ?_|refine aa fun C=>?_|refine ac ?_|refine aq rfl ?_)
    refine bc (cR 90000 (i:=2) 26 4 rfl rfl (pre:=[_,_,_]) (post:=[]) rfl) ?_
    exact rtq3
   | true =>
    rw [show (!false&&(true&&true))=true from rfl,if_pos rfl]
    repeat' (first|(apply ay;first|(refine aK ?_ ?_<;>intro hG<;>(try cases hG))|refine ak ?_|refine ai ?_|refine bf ?_|refine aI ?_|refine bM ?_|refine aF 15 (k2) ?_ (hl:=bF rqf cA)|refine aH c3 ?_|refine aH c4 ?_|refine aH c5 ?_|refine bh ?_|refine bI ?_|refine aB ?_|refine bJ ?_|refine cE ?_|refine au ?_)|refine aj ?_|refine ab ?_|refine aa fun C=>?_|refine ac ?_|refine al ?_|refine ar rfl ?_)
    exact rtq3
def pxS (s:ByteArray):Bool:=decide ((i6 s).2 = -1)&&(!(rdS s).2.b&&(decide ((rdS s).2.a=(gT s).length)&&ff (rdS s).1))
theorem zy6 (s:ByteArray):pxS s=true↔acS s:=by
 unfold pxS acS
 simp only [baq,bnt,dqt]
theorem pxS_I (s:ByteArray):pxS s=pxI s:=by rw [Bool.eq_iff_iff,zy6,rG];exact (pV s).1.symm
theorem pxE_S (s:ByteArray):pxE s=if pxS s=true then (rdS s).1 else zE:=by
 unfold pxE
 rw [pxS_I]
 by_cases h:pxI s=true
 ·rw [if_pos h,if_pos h];exact (pV s).2 ((rG s).1 h)
 ·rw [if_neg h,if_neg h]
theorem za9 (s:ByteArray):PS' (gT s) 21 ⟨0,false,0⟩ (rdS s).1 (rdS s).2:=th (dj s).1 _ _ (Nat.zero_le _)
theorem zj3 (T:TypeId)(n:Nat)(l:List E):fzL [.ow T n 3 (owL l)]=[.ro n 3 (acL l)]:=by simp only [fzL,fzC,mQ]
theorem mT {s:ByteArray}(hs:s.size≤1048576):Ctr prog 13 [.c (.v (.string s))] [] (.tu [.ag (owE (pxE s)),.c (.v (.bool (pxI s)))]) []:=by
 rw [pxE_S,←pxS_I]
 have c1:=fun (w:World) (g:GlobOk w)=>zf1 hs w g
 have hl:=hZ s
 have hlm:((gT s).map T3.E).length=(gT s).length:=List.length_map ..
 have k2:=yk (hZ s) (dj s).1 21 omq ⟨0,(i6 s).2 != -1,0⟩ (Nat.zero_le _) (by dsimp only;omega) omq (by dsimp only;omega)
 by_cases hp:(i6 s).2 = -1
 ·have e1:((i6 s).2 != -1)=false:=by rw [hp];rfl
  rw [e1] at k2 c1
  rw [show exS (gT s) 21 ⟨0,false,0⟩=rdS s from rfl] at k2
  have hps:=za9 s
  have hn:=hps.n
  have hf:=hps.fine
  have c3:(rdS s).2.b=false→Ctr prog 9 [.ag (acE (rdS s).1)] [] (.c (.v (.bool (ff (rdS s).1)))) []:=fun h=>by
   have h0:(rdS s).2.b.toNat=0:=by rw [h];rfl
   have h1:=hn.2.2.2.1 h0
   have h2:=hn.2.1
   dsimp only at h1
   exact kQ hf.ty.1 omq
  unfold pxS
  rw [decide_eq_true hp,Bool.true_and]
  clear hn hps e1 hp
  generalize rdS s=x at *
  obtain⟨e,⟨a,b,d⟩⟩:=x
  dsimp only at *
  generalize gT s=L at *
  generalize ff e=eb at *
  cases hf with
  | mk k n u l _ _ _ _ =>
  unfold df at k2
  dsimp only at k2
  refine az func13 rfl rfl ?_
  refine ac ?_
  refine aa fun C=>?_
  repeat' (first|(apply ay;first|refine bH ?_|refine n_sk0 ?_|(apply tX;first|(refine aK ?_ ?_<;>intro hG<;>(try cases hG))|refine ak ?_|refine cI (v:=.ag _) ?_|refine cI (v:=.tu _) ?_|refine au ?_)|(apply tY;first|refine ai ?_|refine fa (v:=.ag _) ?_|refine fa (v:=.tu _) ?_|refine au ?_)|refine bf ?_|refine iZ ?_|refine aI ?_|refine dD ?_|refine cX ?_|refine bM ?_|refine qi ?_|(apply ub;first|refine bC ?_|refine a7 ?_|refine cJ ?_|refine dz ?_|refine dz (hnu:=bytC_noUn _) ?_|refine n_app0 ?_|refine n_app0 (hnu:=bytC_noUn _) ?_|refine au ?_)|refine bh ?_|refine n_sto ?_|(apply mW;first|refine gJ ?_|refine eG ?_|refine au ?_)|(apply j6;first|refine ao ?_|refine aR ?_|refine aC ?_|refine eM ?_|refine au ?_)|(apply j7;first|refine aN ?_|refine cH ?_|refine dM ?_|refine eH ?_|refine au ?_)|(apply j8;first|refine aA ?_|refine n_lss_u8 ?_|refine au ?_)|(apply j9;first|refine bp ?_|refine n_leq_u8 ?_|refine au ?_)|(apply ka;first|refine aX ?_|refine n_gtr_u8 ?_|refine au ?_)|(apply kb;first|refine bX ?_|refine n_geq_u8 ?_|refine au ?_)|(apply ji;first|refine aw ?_|refine dI ?_|refine au ?_)|(apply uc;first|refine bI ?_|refine au ?_)|(apply tZ;first|refine aB ?_|refine fb (v:=.ag _) ?_|refine fb (v:=.tu _) ?_|refine au ?_)|(apply ua;first|refine b9 ?_|refine dA (v:=.ag _) ?_|refine dA (v:=.tu _) ?_|refine au ?_)|(apply qj;first|refine cu ?_|refine dh ?_|refine au ?_)|(apply si;first|refine dc ?_|refine jC ?_|refine gq ?_|refine n_cvs ?_|refine n_cvr ?_|refine au ?_)|refine bJ ?_|refine cE ?_|refine dT ?_|refine bV ?_|refine fy ?_|refine gK ?_|refine e8 ?_|refine au ?_|refine n_mv ?_)|refine aj ?_|refine ab ?_|(apply da;first|refine fg ?_|refine o_sk0 ?_|(refine e7 ?_ ?_<;>intro hG<;>(try cases hG))|(apply dC;refine aD ?_)|(apply iu;refine aD ?_)|refine dZ ?_|refine ga ?_|(apply tU;first|refine bW ?_|refine d7 ?_|refine dQ ?_|refine gI ?_|refine aD ?_|refine se ?_)|(apply tT;first|refine dt ?_|refine dJ ?_|refine gp ?_|refine eT ?_|refine eT (hnu:=bytC_noUn _) ?_|refine o_app0 ?_|refine o_app0 (hnu:=bytC_noUn _) ?_|refine aD ?_)|refine li ?_|refine o_sto ?_|(apply tV;first|refine iY ?_|refine jB ?_|refine aD ?_)|(apply fF;first|refine cP ?_|refine cS ?_|refine dq ?_|refine gD ?_|refine aD ?_)|(apply tW;first|refine dK ?_|refine gk ?_|refine o_cvs ?_|refine o_cvr ?_|refine aD ?_)|refine pi ?_|refine sd ?_|refine nu ?_|refine eU ?_|refine ir ?_|refine gZ ?_|refine gC ?_|refine aD ?_|refine o_mv ?_)|refine aj ?_|refine ab ?_)
  refine ac ?_
  refine aa fun C=>?_
  repeat' (first|(apply ay;refine zg3 krq c1 ?_)|(apply ay;first|refine bH ?_|refine n_sk0 ?_|(apply tX;first|(refine aK ?_ ?_<;>intro hG<;>(try cases hG))|refine ak ?_|refine cI (v:=.ag _) ?_|refine cI (v:=.tu _) ?_|refine au ?_)|(apply tY;first|refine ai ?_|refine fa (v:=.ag _) ?_|refine fa (v:=.tu _) ?_|refine au ?_)|refine bf ?_|refine iZ ?_|refine aI ?_|refine dD ?_|refine cX ?_|refine bM ?_|refine qi ?_|(apply ub;first|refine bC ?_|refine a7 ?_|refine cJ ?_|refine dz ?_|refine dz (hnu:=bytC_noUn _) ?_|refine n_app0 ?_|refine n_app0 (hnu:=bytC_noUn _) ?_|refine au ?_)|refine bh ?_|refine n_sto ?_|(apply mW;first|refine gJ ?_|refine eG ?_|refine au ?_)|(apply j6;first|refine ao ?_|refine aR ?_|refine aC ?_|refine eM ?_|refine au ?_)|(apply j7;first|refine aN ?_|refine cH ?_|refine dM ?_|refine eH ?_|refine au ?_)|(apply j8;first|refine aA ?_|refine n_lss_u8 ?_|refine au ?_)|(apply j9;first|refine bp ?_|refine n_leq_u8 ?_|refine au ?_)|(apply ka;first|refine aX ?_|refine n_gtr_u8 ?_|refine au ?_)|(apply kb;first|refine bX ?_|refine n_geq_u8 ?_|refine au ?_)|(apply ji;first|refine aw ?_|refine dI ?_|refine au ?_)|(apply uc;first|refine bI ?_|refine au ?_)|(apply tZ;first|refine aB ?_|refine fb (v:=.ag _) ?_|refine fb (v:=.tu _) ?_|refine au ?_)|(apply ua;first|refine b9 ?_|refine dA (v:=.ag _) ?_|refine dA (v:=.tu _) ?_|refine au ?_)|(apply qj;first|refine cu ?_|refine dh ?_|refine au ?_)|(apply si;first|refine dc ?_|refine jC ?_|refine gq ?_|refine n_cvs ?_|refine n_cvr ?_|refine au ?_)|refine bJ ?_|refine cE ?_|refine dT ?_|refine bV ?_|refine fy ?_|refine gK ?_|refine e8 ?_|refine au ?_|refine n_mv ?_)|refine aj ?_|refine ab ?_|(apply da;first|refine fg ?_|refine o_sk0 ?_|(refine e7 ?_ ?_<;>intro hG<;>(try cases hG))|(apply dC;refine aD ?_)|(apply iu;refine aD ?_)|refine dZ ?_|refine ga ?_|(apply tU;first|refine bW ?_|refine d7 ?_|refine dQ ?_|refine gI ?_|refine aD ?_|refine se ?_)|(apply tT;first|refine dt ?_|refine dJ ?_|refine gp ?_|refine eT ?_|refine eT (hnu:=bytC_noUn _) ?_|refine o_app0 ?_|refine o_app0 (hnu:=bytC_noUn _) ?_|refine aD ?_)|refine li ?_|refine o_sto ?_|(apply tV;first|refine iY ?_|refine jB ?_|refine aD ?_)|(apply fF;first|refine cP ?_|refine cS ?_|refine dq ?_|refine gD ?_|refine aD ?_)|(apply tW;first|refine dK ?_|refine gk ?_|refine o_cvs ?_|refine o_cvr ?_|refine aD ?_)|refine pi ?_|refine sd ?_|refine nu ?_|refine eU ?_|refine ir ?_|refine gZ ?_|refine gC ?_|refine aD ?_|refine o_mv ?_)|refine aj ?_|refine ab ?_)
  refine bc (g_frz (i:=7) rfl (pre:=[]) (post:=[.v (.int .i64 0),.v (.bool false),.v (.int .i64 0)]) rfl (zj3 _ _ _) rfl) ?_
  cases b with
  | true =>
   rw [show (!true&&(decide (a=L.length)&&eb))=false from rfl,if_neg (by simp)]
   repeat' (first|(apply ay;first|refine ak ?_|refine aF 7 (k2) ?_ (hl:=bF rqf eC)|refine bh ?_|refine bJ ?_)|refine aj ?_|refine ab ?_|(apply da;first|refine fg ?_|(refine e7 ?_ ?_<;>intro hG<;>(try cases hG))|(apply dC;refine aD ?_)|refine dZ ?_|refine bW ?_|refine aD ?_)|refine aj ?_|refine ab ?_|refine aa fun C=>?_|refine av krq krq fun C=>?_|refine ac ?_)
   refine aq rfl ?_
   repeat' (first|(apply ay;first|refine ai ?_|refine bh ?_|refine au ?_)|refine aj ?_|refine ab ?_|refine aa fun C=>?_|refine ac ?_)
   refine bc (cR 90000 (i:=2) 26 4 rfl rfl (pre:=[_,_,_]) (post:=[]) rfl) ?_
   exact rtq3
  | false =>
   have c3:=c3 rfl
   by_cases ha:a=L.length
   ·subst ha
    cases eb with
    | false =>
     rw [show (!false&&(decide (L.length=L.length)&&false))=false by simp,if_neg (by simp)]
     repeat' (first|(apply ay;first|refine ak ?_|refine aF 7 (k2) ?_ (hl:=bF rqf eC)|refine bh ?_|refine bJ ?_)|refine aj ?_|refine ab ?_|(apply da;first|refine fg ?_|(refine e7 ?_ ?_<;>intro hG<;>(try cases hG))|(apply dC;refine aD ?_)|refine dZ ?_|refine bW ?_|refine gI ?_|refine ei c3 ?_|refine dt ?_|(apply fF;refine aD ?_)|refine aD ?_)|refine aj ?_|refine ab ?_|refine aa fun C=>?_|refine av krq krq fun C=>?_|refine ac ?_)
     ·exfalso;rw [hlm] at hG;simp at hG
     ·refine aq rfl ?_
      repeat' (first|(apply ay;first|refine ai ?_|refine bh ?_|refine au ?_)|refine aj ?_|refine ab ?_|refine aa fun C=>?_|refine ac ?_)
      refine bc (cR 90000 (i:=2) 26 4 rfl rfl (pre:=[_,_,_]) (post:=[]) rfl) ?_
      exact rtq3
    | true =>
     rw [show (!false&&(decide (L.length=L.length)&&true))=true by simp,if_pos rfl]
     repeat' (first|(apply ay;first|refine ak ?_|refine aF 7 (k2) ?_ (hl:=bF rqf eC)|refine bh ?_|refine bJ ?_)|refine aj ?_|refine ab ?_|(apply da;first|refine fg ?_|(refine e7 ?_ ?_<;>intro hG<;>(try cases hG))|(apply dC;refine aD ?_)|refine dZ ?_|refine bW ?_|refine gI ?_|refine ei c3 ?_|refine dt ?_|(apply fF;refine aD ?_)|refine aD ?_)|refine aj ?_|refine ab ?_|refine aa fun C=>?_|refine av krq krq fun C=>?_|refine ac ?_)
     ·exfalso;rw [hlm] at hG;simp at hG
     ·refine ar rfl ?_
      repeat' (first|(apply ay;first|refine ai ?_|refine bM ?_|refine bh ?_)|refine aj ?_|refine ab ?_|refine aa fun C=>?_|refine ac ?_|refine al ?_)
      exact rtq3
   ·rw [show (!false&&(decide (a=L.length)&&eb))=false by simp [ha],if_neg (by simp)]
    repeat' (first|(apply ay;first|refine ak ?_|refine aF 7 (k2) ?_ (hl:=bF rqf eC)|refine bh ?_|refine bJ ?_)|refine aj ?_|refine ab ?_|(apply da;first|refine fg ?_|(refine e7 ?_ ?_<;>intro hG<;>(try cases hG))|(apply dC;refine aD ?_)|refine dZ ?_|refine bW ?_|refine gI ?_|refine ei c3 ?_|refine dt ?_|(apply fF;refine aD ?_)|refine aD ?_)|refine aj ?_|refine ab ?_|refine aa fun C=>?_|refine av krq krq fun C=>?_|refine ac ?_)
    ·refine aq rfl ?_
     repeat' (first|(apply ay;first|refine ai ?_|refine bh ?_|refine au ?_)|refine aj ?_|refine ab ?_|refine aa fun C=>?_|refine ac ?_)
     refine bc (cR 90000 (i:=2) 26 4 rfl rfl (pre:=[_,_,_]) (post:=[]) rfl) ?_
     exact rtq3
    ·exfalso
     rw [hlm] at hG
     have hG:((a:Int) != (L.length:Int))=false:=hG
     simp at hG
     omega
 ·have e1:((i6 s).2 != -1)=true:=by simpa using hp
  rw [e1] at k2 c1
  rw [show exS (gT s) 21 ⟨0,true,0⟩=(zE,⟨0,true,1⟩) from rfl] at k2
  unfold pxS
  rw [decide_eq_false hp,Bool.false_and,if_neg (by simp)]
  generalize gT s=L at *
  unfold df zE at k2
  dsimp only at k2
  refine az func13 rfl rfl ?_
  refine ac ?_
  refine aa fun C=>?_
  repeat' (first|(apply ay;first|refine bH ?_|refine n_sk0 ?_|(apply tX;first|(refine aK ?_ ?_<;>intro hG<;>(try cases hG))|refine ak ?_|refine cI (v:=.ag _) ?_|refine cI (v:=.tu _) ?_|refine au ?_)|(apply tY;first|refine ai ?_|refine fa (v:=.ag _) ?_|refine fa (v:=.tu _) ?_|refine au ?_)|refine bf ?_|refine iZ ?_|refine aI ?_|refine dD ?_|refine cX ?_|refine bM ?_|refine qi ?_|(apply ub;first|refine bC ?_|refine a7 ?_|refine cJ ?_|refine dz ?_|refine dz (hnu:=bytC_noUn _) ?_|refine n_app0 ?_|refine n_app0 (hnu:=bytC_noUn _) ?_|refine au ?_)|refine bh ?_|refine n_sto ?_|(apply mW;first|refine gJ ?_|refine eG ?_|refine au ?_)|(apply j6;first|refine ao ?_|refine aR ?_|refine aC ?_|refine eM ?_|refine au ?_)|(apply j7;first|refine aN ?_|refine cH ?_|refine dM ?_|refine eH ?_|refine au ?_)|(apply j8;first|refine aA ?_|refine n_lss_u8 ?_|refine au ?_)|(apply j9;first|refine bp ?_|refine n_leq_u8 ?_|refine au ?_)|(apply ka;first|refine aX ?_|refine n_gtr_u8 ?_|refine au ?_)|(apply kb;first|refine bX ?_|refine n_geq_u8 ?_|refine au ?_)|(apply ji;first|refine aw ?_|refine dI ?_|refine au ?_)|(apply uc;first|refine bI ?_|refine au ?_)|(apply tZ;first|refine aB ?_|refine fb (v:=.ag _) ?_|refine fb (v:=.tu _) ?_|refine au ?_)|(apply ua;first|refine b9 ?_|refine dA (v:=.ag _) ?_|refine dA (v:=.tu _) ?_|refine au ?_)|(apply qj;first|refine cu ?_|refine dh ?_|refine au ?_)|(apply si;first|refine dc ?_|refine jC ?_|refine gq ?_|refine n_cvs ?_|refine n_cvr ?_|refine au ?_)|refine bJ ?_|refine cE ?_|refine dT ?_|refine bV ?_|refine fy ?_|refine gK ?_|refine e8 ?_|refine au ?_|refine n_mv ?_)|refine aj ?_|refine ab ?_|(apply da;first|refine fg ?_|refine o_sk0 ?_|(refine e7 ?_ ?_<;>intro hG<;>(try cases hG))|(apply dC;refine aD ?_)|(apply iu;refine aD ?_)|refine dZ ?_|refine ga ?_|(apply tU;first|refine bW ?_|refine d7 ?_|refine dQ ?_|refine gI ?_|refine aD ?_|refine se ?_)|(apply tT;first|refine dt ?_|refine dJ ?_|refine gp ?_|refine eT ?_|refine eT (hnu:=bytC_noUn _) ?_|refine o_app0 ?_|refine o_app0 (hnu:=bytC_noUn _) ?_|refine aD ?_)|refine li ?_|refine o_sto ?_|(apply tV;first|refine iY ?_|refine jB ?_|refine aD ?_)|(apply fF;first|refine cP ?_|refine cS ?_|refine dq ?_|refine gD ?_|refine aD ?_)|(apply tW;first|refine dK ?_|refine gk ?_|refine o_cvs ?_|refine o_cvr ?_|refine aD ?_)|refine pi ?_|refine sd ?_|refine nu ?_|refine eU ?_|refine ir ?_|refine gZ ?_|refine gC ?_|refine aD ?_|refine o_mv ?_)|refine aj ?_|refine ab ?_)
  refine ac ?_
  refine aa fun C=>?_
  repeat' (first|(apply ay;refine zg3 krq c1 ?_)|(apply ay;first|refine bH ?_|refine n_sk0 ?_|(apply tX;first|(refine aK ?_ ?_<;>intro hG<;>(try cases hG))|refine ak ?_|refine cI (v:=.ag _) ?_|refine cI (v:=.tu _) ?_|refine au ?_)|(apply tY;first|refine ai ?_|refine fa (v:=.ag _) ?_|refine fa (v:=.tu _) ?_|refine au ?_)|refine bf ?_|refine iZ ?_|refine aI ?_|refine dD ?_|refine cX ?_|refine bM ?_|refine qi ?_|(apply ub;first|refine bC ?_|refine a7 ?_|refine cJ ?_|refine dz ?_|refine dz (hnu:=bytC_noUn _) ?_|refine n_app0 ?_|refine n_app0 (hnu:=bytC_noUn _) ?_|refine au ?_)|refine bh ?_|refine n_sto ?_|(apply mW;first|refine gJ ?_|refine eG ?_|refine au ?_)|(apply j6;first|refine ao ?_|refine aR ?_|refine aC ?_|refine eM ?_|refine au ?_)|(apply j7;first|refine aN ?_|refine cH ?_|refine dM ?_|refine eH ?_|refine au ?_)|(apply j8;first|refine aA ?_|refine n_lss_u8 ?_|refine au ?_)|(apply j9;first|refine bp ?_|refine n_leq_u8 ?_|refine au ?_)|(apply ka;first|refine aX ?_|refine n_gtr_u8 ?_|refine au ?_)|(apply kb;first|refine bX ?_|refine n_geq_u8 ?_|refine au ?_)|(apply ji;first|refine aw ?_|refine dI ?_|refine au ?_)|(apply uc;first|refine bI ?_|refine au ?_)|(apply tZ;first|refine aB ?_|refine fb (v:=.ag _) ?_|refine fb (v:=.tu _) ?_|refine au ?_)|(apply ua;first|refine b9 ?_|refine dA (v:=.ag _) ?_|refine dA (v:=.tu _) ?_|refine au ?_)|(apply qj;first|refine cu ?_|refine dh ?_|refine au ?_)|(apply si;first|refine dc ?_|refine jC ?_|refine gq ?_|refine n_cvs ?_|refine n_cvr ?_|refine au ?_)|refine bJ ?_|refine cE ?_|refine dT ?_|refine bV ?_|refine fy ?_|refine gK ?_|refine e8 ?_|refine au ?_|refine n_mv ?_)|refine aj ?_|refine ab ?_|(apply da;first|refine fg ?_|refine o_sk0 ?_|(refine e7 ?_ ?_<;>intro hG<;>(try cases hG))|(apply dC;refine aD ?_)|(apply iu;refine aD ?_)|refine dZ ?_|refine ga ?_|(apply tU;first|refine bW ?_|refine d7 ?_|refine dQ ?_|refine gI ?_|refine aD ?_|refine se ?_)|(apply tT;first|refine dt ?_|refine dJ ?_|refine gp ?_|refine eT ?_|refine eT (hnu:=bytC_noUn _) ?_|refine o_app0 ?_|refine o_app0 (hnu:=bytC_noUn _) ?_|refine aD ?_)|refine li ?_|refine o_sto ?_|(apply tV;first|refine iY ?_|refine jB ?_|refine aD ?_)|(apply fF;first|refine cP ?_|refine cS ?_|refine dq ?_|refine gD ?_|refine aD ?_)|(apply tW;first|refine dK ?_|refine gk ?_|refine o_cvs ?_|refine o_cvr ?_|refine aD ?_)|refine pi ?_|refine sd ?_|refine nu ?_|refine eU ?_|refine ir ?_|refine gZ ?_|refine gC ?_|refine aD ?_|refine o_mv ?_)|refine aj ?_|refine ab ?_)
  refine bc (g_frz (i:=7) rfl (pre:=[]) (post:=[.v (.int .i64 0),.v (.bool true),.v (.int .i64 0)]) rfl (zj3 _ _ _) rfl) ?_
  repeat' (first|(apply ay;first|refine ak ?_|refine aF 7 (k2) ?_ (hl:=bF rqf eC)|refine bh ?_|refine bJ ?_)|refine aj ?_|refine ab ?_|(apply da;first|refine fg ?_|(refine e7 ?_ ?_<;>intro hG<;>(try cases hG))|(apply dC;refine aD ?_)|refine dZ ?_|refine bW ?_|refine aD ?_)|refine aj ?_|refine ab ?_|refine aa fun C=>?_|refine av krq krq fun C=>?_|refine ac ?_)
  refine aq rfl ?_
  repeat' (first|(apply ay;first|refine ai ?_|refine bh ?_|refine au ?_)|refine aj ?_|refine ab ?_|refine aa fun C=>?_|refine ac ?_)
  refine bc (cR 90000 (i:=2) 26 4 rfl rfl (pre:=[_,_,_]) (post:=[]) rfl) ?_
  exact rtq3
end Go.Proofs.YtomolhbkdhjofaaGreatDoor
