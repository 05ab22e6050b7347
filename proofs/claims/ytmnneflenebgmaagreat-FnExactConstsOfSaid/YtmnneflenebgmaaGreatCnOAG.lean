/- T -/
import Derived.StillTailTactics
import Derived.Test.YtmnneflenebgmaaGreatCnOAF
set_option maxHeartbeats 0
set_option maxRecDepth 100000
namespace Go.Proofs.YtmnneflenebgmaaGreat
open Go.RowKit Go.Proofs.Tryz
def mV (k:Int)(p:E)(l:List E):Bool:=inR k 1 4&&(fh l&&(if k=4 then fZ p else pU p))
def kT (e:E):Bool:=match e with | .agg [.int _ k,p,.lst _ _ _ _ l]=>mV k p l|_=>false
def qZ (n:Nat)(p:Nat→Bool):Bool:=(List.range n).all p
theorem jS {n:Nat}{p:Nat→Bool}(h:∀j,j<n→p j=true):qZ n p=true:=List.all_eq_true.2 fun j hj=>h j (List.mem_range.1 hj)
theorem jb {n:Nat}{p:Nat→Bool}{j:Nat}(h:j<n)(h2:p j=false):qZ n p=false:=by
 cases ha:qZ n p with
 | false=>rfl
 | true=>rw [List.all_eq_true.1 ha j (List.mem_range.2 h)] at h2;cases h2
def pW (l:List E)(k:Nat):Bool:=bW (jt (l[k]?.getD (.int .i64 0)))&&!jE (l.take k) (jt (l[k]?.getD (.int .i64 0)))
def sx (l:List E):Bool:=qZ l.length (pW l)
def fnNm (e:E):ByteArray:=match e with | .agg (.str s :: _)=>s|_=>ByteArray.empty
def fnOkF (e:E):Bool:=match e with | .agg [.str s,.lst _ _ _ _ ps,.lst _ _ _ _ l]=>bW s&&(decide (ps.length≤4)&&(fh l&&sx ps))|_=>false
def q7 (s:ByteArray)(e:E):Bool:=(fnNm e).toList==s.toList
def gy (l:List E)(i:Nat):Bool:=fnOkF (l[i]?.getD (.int .i64 0))&&(gf (q7 (fnNm (l[i]?.getD (.int .i64 0)))) l==(i:Int))
def eX (rs fs:List E):Bool:=(decide (rs.length≤10)&&decide (fs.length≤6))&&(rs.all kT&&qZ fs.length (gy fs))
def progE (e:E):Bool:=match e with | .agg [.lst _ _ _ _ rs,.lst _ _ _ _ fs]=>eX rs fs|_=>false
theorem ov:∀(ks:List E) (a:Nat),(∀e∈ks,e.enc.length=1)→(acL ks).take a=acL (ks.take a)
 | _,0,_=>rfl
 | [],a+1,_=>rfl
 | e :: r,a+1,h=>by
  have h1:=h e List.mem_cons_self
  rw [←mt] at h1
  show ((acE e++acL r).take (a+1))=acE e++acL (r.take a)
  obtain⟨c,hc⟩:=List.length_eq_one_iff.1 h1
  rw [hc]
  show c :: (acL r).take a=c :: acL (r.take a)
  rw [ov r a fun e he=>h e (List.mem_cons_of_mem _ he)]
section
variable {ops:Array Oper}{Q:Exit→Act→World→Prop}{C:Ctx}{H:List (Nat×Oper×Inf)}{i:Nat}{r:List Nat}{dr:Bool}
variable {tm:Nat→AV}{hp:Nat→Option Row}{gn L:Nat}{us:List Nat}
theorem e_hd {ty:TypeId}{gd:Option (Nat×Bool)}{ps:String}{af:Array Edge}{t:Nat}{x hi:Operand}{ks:List E}{a:Nat}{z1:Int}{ev:Operand→AV}{hp:Nat→Option Row}{id:Nat}(hk:∀e∈ks,e.enc.length=1)(hx:ev x=.c (.ro ks.length 1 (acL ks)))(h1:ev hi=.c (.v (.int .i64 z1)))(e1:z1=(a:Int))(ha:a≤ks.length) :
 EffD prog (⟨some t,.slice 31 x none (some hi) none,ty,ps,af,gd⟩:Oper) ev hp id=some (.c (.ro (ks.take a).length 1 (acL (ks.take a))),.nop):=by
 show (if ii (ev x)=true then _ else ji prog hp id 31 (ev x) none (some (ev hi)))=_
 rw [hx,if_neg (by intro h;cases h),h1]
 unfold ji
 rw [underlying31]
 have hs:(prog.info? 9).map (·.size)=some 1:=by kernel_rfl
 simp only [hs]
 subst e1
 have b1:bnd ks.length (some (.c (.v (.int .i64 (a:Int)))))=some a:=by simp [bnd]
 have b2:bnd 0 none=some 0:=rfl
 rw [b1,b2]
 simp only
 have hl:(ks.take a).length=a:=by rw [List.length_take];omega
 rw [if_pos ⟨trivial,Nat.zero_le _,ha⟩,Nat.sub_zero,hl]
 simp only [Nat.mul_one]
 unfold gQ
 rw [List.drop_zero,ov ks a hk]
theorem o_hd {ty:TypeId}{gd:Option (Nat×Bool)}{ps:String}{af:Array Edge}{t:Nat}{x hi:Operand}{ks:List E}{z1:Int}(a:Nat)(hk:∀e∈ks,e.enc.length=1)(ha:a≤ks.length)(e1:z1=(a:Int))(h:Walk prog ops Q C dr (bP dr (i,(⟨some t,.slice 31 x none (some hi) none,ty,ps,af,gd⟩:Oper),⟨fpO (AS.ev ⟨tm,hp,gn,us,L⟩) (⟨some t,.slice 31 x none (some hi) none,ty,ps,af,gd⟩:Oper),[],[],.c (.ro (ks.take a).length 1 (acL (ks.take a)))⟩) H) r ⟨upd tm t (.c (.ro (ks.take a).length 1 (acL (ks.take a)))),hp,gn,us,L⟩)
 (ht:Nat.blt t L=true:=by exact rfl) (hg:gw ops tm (⟨some t,.slice 31 x none (some hi) none,ty,ps,af,gd⟩:Oper)=some true:=by exact rfl) (hx:AS.ev ⟨tm,hp,gn,us,L⟩ x=.c (.ro ks.length 1 (acL ks)):=by exact rfl) (h1:AS.ev ⟨tm,hp,gn,us,L⟩ hi=.c (.v (.int .i64 z1)):=by exact rfl)
 (hc:chk dr ops i (⟨some t,.slice 31 x none (some hi) none,ty,ps,af,gd⟩:Oper) ⟨fpO (AS.ev ⟨tm,hp,gn,us,L⟩) (⟨some t,.slice 31 x none (some hi) none,ty,ps,af,gd⟩:Oper),[],[],.c (.ro (ks.take a).length 1 (acL (ks.take a)))⟩ H=true:=by first|(with_reducible exact bB)|kernel_rfl) :
 WalkO prog ops Q C dr H i (⟨some t,.slice 31 x none (some hi) none,ty,ps,af,gd⟩:Oper) r ⟨tm,hp,gn,us,L⟩:=bg h ht hg (e_hd hk hx h1 e1 ha) hc
theorem n_hd {ty:TypeId}{gd:Option (Nat×Bool)}{ps:String}{af:Array Edge}{t:Nat}{x hi:Operand}{ks:List E}{z1:Int}(a:Nat)(hk:∀e∈ks,e.enc.length=1)(ha:a≤ks.length)(e1:z1=(a:Int))(h:Walk prog ops Q C false [] r ⟨upd tm t (.c (.ro (ks.take a).length 1 (acL (ks.take a)))),hp,gn,us,L⟩)
 (ht:Nat.blt t L=true:=by exact rfl) (hg:gw ops tm (⟨some t,.slice 31 x none (some hi) none,ty,ps,af,gd⟩:Oper)=some true:=by exact rfl) (hx:AS.ev ⟨tm,hp,gn,us,L⟩ x=.c (.ro ks.length 1 (acL ks)):=by exact rfl) (h1:AS.ev ⟨tm,hp,gn,us,L⟩ hi=.c (.v (.int .i64 z1)):=by exact rfl) :
 WalkO prog ops Q C false [] i (⟨some t,.slice 31 x none (some hi) none,ty,ps,af,gd⟩:Oper) r ⟨tm,hp,gn,us,L⟩:=aS h ht hg (e_hd hk hx h1 e1 ha)
end
theorem ox {l:List E}(hl:∀e∈l,e.Ty prog 106)(hk:∀e∈l,e.enc.length=6)(hlen:l.length+E.szL l≤1048576):Ctr prog 62 [.c (.ro l.length 6 (acL l))] [] (.c (.v (.bool (fh l)))) []:=by
 refine av func62 rfl rfl ?_
 repeat' (first|(apply ay;refine ak ?_)|refine al ?_|refine ab ?_|refine aa fun C=>?_|refine ae ?_|refine ah ?_)
 refine aP (fun k:Nat=>⟨dA [(0,.c (.ro l.length 6 (acL l))),(3,.c (.v (.int .i64 (k:Int))))],dq [],0,[],19⟩)
  (fun N k=>k+N=l.length∧∀j y,j<k→l[j]? = some y→ja y=true) l.length 0 ⟨omq,fun j y hj=>absurd hj (Nat.not_lt_zero j)⟩ ?_ ?_
 ·(refine aC _ _ rfl rfl ?_ ?_<;>exact tdy0)
 rintro N k ⟨hN,hr⟩
 try dsimp only
 repeat' (first|(apply ay;first|refine ao ?_|refine aY ?_|refine aO ?_)|refine al ?_|refine ab ?_|refine aa fun C=>?_|refine ae ?_)
 refine aj (by rfl) (fun h1=>?_) fun h1=>?_
 ·have hk':k<l.length:=by simpa using h1
  obtain⟨x,hx'⟩:∃x,l[k]? = some x:=⟨_,List.getElem?_eq_getElem hk'⟩
  have hxz:=E.szL_mem (List.mem_of_getElem? hx')
  have hxt:=hl x (List.mem_of_getElem? hx')
  have cx:=ou hxt omq
  cases hb2:ja x with
  | false =>
   have e0:fh l=false:=by
    unfold fh
    cases ha2:l.all ja with
    | false=>rw [Bool.and_false]
    | true=>rw [List.all_eq_true.1 ha2 x (List.mem_of_getElem? hx')] at hb2;cases hb2
   rw [hb2] at cx
   rw [e0]
   obtain⟨z0,z1,z2,zA,zc,zx,yA,yc,ya,wA,wc,yb,rfl,-⟩:=aQ hxt
   repeat' (first|(apply ay;first|refine ao ?_|refine ak ?_|refine bI ?_|refine aI cx ?_|refine dE ?_|refine bF ?_)|refine al ?_|refine ab ?_|refine aa fun C=>?_|refine ae ?_|refine ah ?_|refine ai ?_|refine az rfl ?_)
   exact d9
  | true =>
   have hb3:=hb2
   rw [hb2] at cx
   obtain⟨z0,z1,z2,zA,zc,zx,yA,yc,ya,wA,wc,yb,rfl,-⟩:=aQ hxt
   repeat' (first|(apply ay;first|refine ao ?_|refine ak ?_|refine bI ?_|refine aI cx ?_|refine dE ?_|refine aD ?_|refine bF ?_)|refine al ?_|refine ab ?_|refine aa fun C=>?_|refine ae ?_|refine ah ?_|refine ai ?_|refine aE rfl ?_)
   refine⟨N-1,k+1,omq,⟨omq,fun j y hj hy=>?_⟩,?_⟩
   ·by_cases e:j=k
    ·rw [e,hx'] at hy;injection hy with hy;subst hy;exact hb3
    ·exact hr j y omq hy
   ·(refine aC _ _ rfl rfl ?_ ?_<;>exact tdy0)
 ·have hk':¬k<l.length:=by simpa using h1
  rw [show fh l=decide ((l.length:Int)≤20) by
   unfold fh
   rw [List.all_eq_true.2 fun y hy=>by
    obtain⟨j,hj⟩:=List.getElem?_of_mem hy
    have:=(List.getElem?_eq_some_iff.1 hj).1
    exact hr j y omq hj,Bool.and_true]
   exact decide_eq_decide.2 omq]
  repeat' (first|(apply ay;first|refine ao ?_|refine ak ?_|refine aY ?_|refine bz ?_)|refine al ?_|refine ab ?_|refine aa fun C=>?_|refine ae ?_|refine au ?_)
  exact d9
theorem len0 (l:List E):((l.length:Int)==0)=decide (l=[]):=by
 cases l with
 | nil=>rfl
 | cons x r =>
  rw [show ((((x :: r).length:Nat):Int)==0)=false from beq_eq_false_iff_ne.2 (by rw [List.length_cons];omega)]
  rfl
theorem vI {e:E}(he:e.Ty prog 70)(hsz:e.sz≤1048576):Ctr prog 114 [.ag (acE e)] [] (.c (.v (.bool (pU e)))) []:=by
 obtain⟨k0,n0,s0,xA,xc,l,rfl,-⟩:=aB he
 simp only [E.sz,E.szL] at hsz
 rw [show pU (.agg [.int .i64 k0,.int .i64 n0,.str s0,.lst 4 70 xA xc l])=(decide (k0=0)&&(decide (n0=0)&&(emB s0&&decide (l.length=0)))) from rfl]
 refine av func114 rfl rfl ?_
 repeat' (first|(apply ay;first|refine bO ?_|(refine aU ?_ ?_<;>intro hG<;>(try cases hG))|refine ak ?_|refine bd ?_|refine aL ?_|refine aY ?_|refine aq ?_|refine bG ?_|refine aF ?_|refine bL ?_)|refine al ?_|refine ab ?_|refine aa fun C=>?_|refine ae ?_)
 all_goals first
  | (refine am ?_;refine bi rfl aN ⟨?_,rfl⟩;first|rfl|(simp_all [emB];done)|(simp_all [emB];exact len0 _))
theorem vJ {k:Int}{p:E}{l:List E}(hp:p.Ty prog 70)(hpz:p.sz≤1048576)(hl:∀e∈l,e.Ty prog 106)(hk:∀e∈l,e.enc.length=6)(hlen:l.length+E.szL l≤1048576):Ctr prog 58 [.ag (.v (.int .i64 k) :: (acE p++[.ro l.length 6 (acL l)]))] [] (.c (.v (.bool (mV k p l)))) []:=by
 have c1:=ox hl hk hlen
 have c2:=vI hp hpz
 have c3:=jw hp hpz
 obtain⟨k0,n0,s0,xA,xc,pl,rfl,-⟩:=aB hp
 unfold mV
 generalize fh l=b1 at c1 ⊢
 generalize pU _=b2 at c2 ⊢
 generalize fZ _=b3 at c3 ⊢
 by_cases h:k=1∨k=2∨k=3
 ·have h4:¬k=4:=by omega
  rw [if_neg h4,show inR k 1 4=true by simp [inR];omega]
  rcases h with rfl|rfl|rfl
  all_goals
   cases b2
   all_goals
    refine av func58 rfl rfl ?_
    repeat' (first|(apply ay;first|refine bO ?_|(refine aU ?_ ?_<;>intro hG<;>(try cases hG))|refine ak ?_|refine bd ?_|refine aL ?_|refine aI c1 ?_|refine aI c2 ?_|refine aq ?_|refine aF ?_|refine bL ?_|refine aS ?_)|refine al ?_|refine ab ?_|refine aa fun C=>?_|refine ae ?_|refine ah ?_|refine ai ?_|refine az rfl ?_|refine aE rfl ?_)
    refine am ?_;refine bi rfl aN ⟨?_,rfl⟩
    cases b1<;>rfl
 ·by_cases h4:k=4
  ·subst h4
   rw [if_pos rfl,show inR 4 1 4=true from rfl]
   cases b3
   all_goals
    refine av func58 rfl rfl ?_
    repeat' (first|(apply ay;first|refine bO ?_|(refine aU ?_ ?_<;>intro hG<;>(try cases hG))|refine ak ?_|refine bd ?_|refine aL ?_|refine aI c1 ?_|refine aI c3 ?_|refine aq ?_|refine aF ?_|refine bL ?_|refine aS ?_)|refine al ?_|refine ab ?_|refine aa fun C=>?_|refine ae ?_|refine ah ?_|refine az rfl ?_|refine aE rfl ?_)
    refine am ?_;refine bi rfl aN ⟨?_,rfl⟩
    cases b1<;>rfl
  ·rw [show inR k 1 4=false by simp [inR];omega,Bool.false_and]
   have h1:¬k=1:=by omega
   have h2:¬k=2:=by omega
   have h3:¬k=3:=by omega
   refine av func58 rfl rfl ?_
   repeat' (first|(apply ay;first|refine ak ?_|refine bd ?_|refine aL ?_|refine aq ?_|refine bL ?_)|refine al ?_|refine ab ?_|refine aa fun C=>?_|refine ae ?_|refine ah ?_)
   iterate 12 ((try (first|refine aj (by rfl) (fun hC=>absurd (eq_of_beq hC) (by assumption)) fun hC=>?_|refine aE rfl ?_));(try repeat' (first|(apply ay;first|refine ak ?_|refine aq ?_)|refine al ?_|refine ab ?_|refine aa fun C=>?_|refine ae ?_|refine ai ?_)))
   exact d9
theorem pX {l:List E}(hl:∀e∈l,e.Ty prog 9)(hk:∀e∈l,e.enc.length=1)(hlen:l.length+E.szL l≤1048576):Ctr prog 61 [.c (.ro l.length 1 (acL l))] [] (.c (.v (.bool (decide (l.length≤4)&&sx l)))) []:=by
 refine av func61 rfl rfl ?_
 repeat' (first|(apply ay;refine ak ?_)|refine al ?_|refine ab ?_|refine aa fun C=>?_|refine ae ?_|refine ah ?_)
 refine aP (fun k:Nat=>⟨dA [(0,.c (.ro l.length 1 (acL l))),(3,.c (.v (.int .i64 (k:Int))))],dq [],0,[],29⟩)
  (fun N k=>k+N=l.length∧∀j,j<k→pW l j=true) l.length 0 ⟨omq,fun j hj=>absurd hj (Nat.not_lt_zero j)⟩ ?_ ?_
 ·(refine aC _ _ rfl rfl ?_ ?_<;>exact tdy0)
 rintro N k ⟨hN,hr⟩
 try dsimp only
 repeat' (first|(apply ay;first|refine ao ?_|refine aY ?_|refine aO ?_)|refine al ?_|refine ab ?_|refine aa fun C=>?_|refine ae ?_)
 refine aj (by rfl) (fun h1=>?_) fun h1=>?_
 ·have hk':k<l.length:=by simpa using h1
  obtain⟨x,hx'⟩:∃x,l[k]? = some x:=⟨_,List.getElem?_eq_getElem hk'⟩
  have hxz:=E.szL_mem (List.mem_of_getElem? hx')
  obtain⟨z,rfl,-⟩:=(hl x (List.mem_of_getElem? hx')).str_ underlying9
  simp only [E.sz] at hxz
  have c1:=cF (s:=z) omq
  have hll:(l.take k).length≤1048576:=by rw [List.length_take];omega
  have c2:=pV (l:=l.take k) (fun e he=>hl e (List.mem_of_mem_take he)) hll z
  have ep:pW l k=(bW z&&!jE (l.take k) z):=by unfold pW;rw [hx'];rfl
  generalize bW z=b1 at c1 ep
  generalize jE (l.take k) z=b2 at c2 ep
  cases b1<;>cases b2
  case true.false =>
   repeat' (first|(apply fH;refine o_hd k hk omq rfl ?_)|(apply ay;first|refine ao ?_|refine ak ?_|refine aD ?_)|refine al ?_|refine ab ?_|(apply fH;first|(refine lK ?_ ?_<;>intro hG<;>(try cases hG))|(apply gg;refine bg ?_)|refine qH ?_|refine fO c1 ?_|refine fO c2 ?_|refine o_ix ?_|refine bg ?_)|refine al ?_|refine ab ?_|refine aa fun C=>?_|refine ar (by kernel_rfl) (by kernel_rfl) fun C=>?_|refine ae ?_|refine ah ?_|refine ai ?_|refine aE rfl ?_)
   refine⟨N-1,k+1,omq,⟨omq,fun j hj=>?_⟩,?_⟩
   ·by_cases e:j=k
    ·subst e;exact ep
    ·exact hr j omq
   ·(refine aC _ _ rfl rfl ?_ ?_<;>exact tdy0)
  all_goals
   rw [show sx l=false from jb hk' ep,Bool.and_false]
   repeat' (first|(apply fH;refine o_hd k hk omq rfl ?_)|(apply ay;refine ak ?_)|refine al ?_|refine ab ?_|(apply fH;first|refine nh ?_|(refine lK ?_ ?_<;>intro hG<;>(try cases hG))|(apply gg;refine bg ?_)|refine qH ?_|refine fO c1 ?_|refine fO c2 ?_|refine o_ix ?_|refine bg ?_)|refine al ?_|refine ab ?_|refine aa fun C=>?_|refine ar (by kernel_rfl) (by kernel_rfl) fun C=>?_|refine ae ?_|refine ah ?_|refine ai ?_|refine az rfl ?_)
   exact d9
 ·have hk':¬k<l.length:=by simpa using h1
  rw [show sx l=true from jS fun j hj=>hr j omq,Bool.and_true,show decide (l.length≤4)=decide ((l.length:Int)≤4) from decide_eq_decide.2 omq]
  repeat' (first|(apply ay;first|refine ao ?_|refine ak ?_|refine aY ?_|refine bz ?_)|refine al ?_|refine ab ?_|refine aa fun C=>?_|refine ae ?_|refine au ?_)
  exact d9
theorem gL {x:Int}(h:(Lit.int .i64 x).wf=true):(E.int .i64 x).Ty prog 3:=by simp only [E.Ty];exact⟨underlying3,h⟩
theorem za2 {rs fs:List E}(hr:rs.length≤1048576)(hl:∀e∈fs,e.Ty prog 89)(hk:∀e∈fs,e.enc.length=3)(hlen:fs.length≤1048576)(s:ByteArray):Ctr prog 60 [.ag [.ro rs.length 6 (acL rs),.ro fs.length 3 (acL fs)],.c (.v (.string s))] [] (.c (.v (.int .i64 (gf (q7 s) fs)))) []:=by
 refine av func60 rfl rfl ?_
 repeat' (first|(apply ay;first|refine ak ?_|refine bL ?_)|refine al ?_|refine ab ?_|refine aa fun C=>?_|refine ae ?_|refine ah ?_)
 refine aP (fun k:Nat=>⟨dA [(1,.c (.v (.string s))),(2,.c (.pt 2 0)),(5,.c (.v (.int .i64 (k:Int))))],dq [(2,2,⟨27,0,0,true,[.ro rs.length 6 (acL rs),.ro fs.length 3 (acL fs)]⟩)],0,[2],22⟩)
  (fun N k=>k+N=fs.length∧∀j y,j<k→fs[j]? = some y→q7 s y=false) fs.length 0 ⟨omq,fun j y hj=>absurd hj (Nat.not_lt_zero j)⟩ ?_ ?_
 ·(refine aC _ _ rfl rfl ?_ ?_<;>exact tdy0)
 rintro N k ⟨hN,hno⟩
 try dsimp only
 repeat' (first|(apply ay;first|refine ao ?_|refine bd ?_|refine aL ?_|refine aY ?_|refine aO ?_)|refine al ?_|refine ab ?_|refine aa fun C=>?_|refine ae ?_)
 refine aj (by rfl) (fun h1=>?_) fun h1=>?_
 ·have hk':k<fs.length:=by simpa using h1
  obtain⟨x,hx'⟩:∃x,fs[k]? = some x:=⟨_,List.getElem?_eq_getElem hk'⟩
  obtain⟨n0,pA,pc,ps,bA,bc,bl,rfl,-⟩:=bN (hl x (List.mem_of_getElem? hx'))
  repeat' (first|(apply ay;first|refine ao ?_|refine bd ?_|refine gO ?_|refine aL ?_|refine dC ?_|refine dE ?_|refine bG ?_)|refine al ?_|refine ab ?_|refine aa fun C=>?_|refine ae ?_|refine ah ?_|refine ai ?_)
  refine aj (by rfl) (fun h2=>?_) fun h2=>?_
  ·rw [fg (fun j y hj hy=>hno j y hj hy) hx' (show q7 s _=true from h2)]
   repeat' (first|(apply ay;first|refine ao ?_|refine ak ?_)|refine al ?_|refine ab ?_|refine aa fun C=>?_|refine ae ?_)
   exact d9
  ·repeat' (first|(apply ay;first|refine ao ?_|refine ak ?_|refine aD ?_)|refine al ?_|refine ab ?_|refine aa fun C=>?_|refine ai ?_)
   refine⟨N-1,k+1,omq,⟨omq,fun j y hj hy=>?_⟩,?_⟩
   ·by_cases e:j=k
    ·rw [e,hx'] at hy;injection hy with hy;subst hy;exact h2
    ·exact hno j y omq hy
   ·(refine aC _ _ rfl rfl ?_ ?_<;>exact tdy0)
 ·have hk':¬k<fs.length:=by simpa using h1
  rw [dt fun j y hj hy=>hno j y omq hy]
  repeat' (first|(apply ay;refine ak ?_)|refine al ?_|refine ab ?_|refine aa fun C=>?_|refine ae ?_|refine au ?_)
  exact d9
theorem oy {e:E}(he:e.Ty prog 27)(hsz:e.sz≤1048576):Ctr prog 21 [.ag (acE e)] [] (.c (.v (.bool (progE e)))) []:=by
 obtain⟨rA,rc,rs,fA,fc,fs,rfl,⟨hr,kr⟩,⟨hf,kf⟩,-⟩:=b8 he
 simp only [E.sz,E.szL] at hsz
 show Ctr _ _ _ _ (.c (.v (.bool (eX rs fs)))) _
 refine av func21 rfl rfl ?_
 repeat' (first|(apply ay;first|refine ak ?_|refine bL ?_)|refine al ?_|refine ab ?_|refine aa fun C=>?_|refine ae ?_|refine ah ?_)
 refine aP (fun k:Nat=>⟨dA [(1,.c (.pt 1 0)),(3,.c (.v (.int .i64 (k:Int))))],dq [(1,1,⟨27,0,0,true,[.ro rs.length 6 (acL rs),.ro fs.length 3 (acL fs)]⟩)],0,[1],66⟩)
  (fun N k=>k+N=rs.length∧∀j y,j<k→rs[j]? = some y→kT y=true) rs.length 0 ⟨omq,fun j y hj=>absurd hj (Nat.not_lt_zero j)⟩ ?_ ?_
 ·(refine aC _ _ rfl rfl ?_ ?_<;>exact tdy0)
 rintro N k ⟨hN,hno⟩
 try dsimp only
 repeat' (first|(apply ay;first|refine ao ?_|refine bd ?_|refine aL ?_|refine aY ?_|refine aO ?_)|refine al ?_|refine ab ?_|refine aa fun C=>?_|refine ae ?_)
 refine aj (by rfl) (fun h1=>?_) fun h1=>?_
 ·have hk':k<rs.length:=by simpa using h1
  obtain⟨x,hx'⟩:∃x,rs[k]? = some x:=⟨_,List.getElem?_eq_getElem hk'⟩
  have hxz:=E.szL_mem (List.mem_of_getElem? hx')
  have hxt:=hr x (List.mem_of_getElem? hx')
  obtain⟨k0,p0,p1,p2,pA,pc,pl,bA,bc,bl,rfl,-,g1,g2,g3,⟨g4,g4'⟩,⟨g5,g5'⟩,-⟩:=bJ hxt
  simp only [E.sz,E.szL] at hxz
  have cx:=vJ (k:=k0) (p:=.agg [.int .i64 p0,.int .i64 p1,.str p2,.lst 4 70 pA pc pl]) (E.Ty.mk_agg underlying70 (E.TyF.mk_cons (gL g1) (E.TyF.mk_cons (gL g2) (E.TyF.mk_cons (by simp only [E.Ty];exact⟨underlying9,by unfold maxLen;omega⟩) (E.TyF.mk_cons (E.Ty.mk_lst underlying68 (by kernel_rfl) g4 g4') E.TyF.mk_nil))))) (by simp only [E.sz,E.szL];omega) g5 g5' omq
  have er:kT (.agg [.int .i64 k0,.agg [.int .i64 p0,.int .i64 p1,.str p2,.lst 4 70 pA pc pl],.lst 6 106 bA bc bl])=mV k0 (.agg [.int .i64 p0,.int .i64 p1,.str p2,.lst 4 70 pA pc pl]) bl:=rfl
  rw [←er] at cx
  cases hb2:kT (.agg [.int .i64 k0,.agg [.int .i64 p0,.int .i64 p1,.str p2,.lst 4 70 pA pc pl],.lst 6 106 bA bc bl]) with
  | false =>
   have e0:eX rs fs=false:=by
    unfold eX
    cases ha2:rs.all kT with
    | false=>rw [Bool.false_and,Bool.and_false]
    | true=>rw [List.all_eq_true.1 ha2 _ (List.mem_of_getElem? hx')] at hb2;cases hb2
   rw [hb2] at cx
   rw [e0]
   repeat' (first|(apply ay;first|refine ao ?_|refine ak ?_|refine bd ?_|refine aL ?_|refine bI ?_|refine aI cx ?_|refine dE ?_|refine bF ?_)|refine al ?_|refine ab ?_|refine aa fun C=>?_|refine ae ?_|refine ah ?_|refine ai ?_|refine az rfl ?_)
   exact d9
  | true =>
   rw [hb2] at cx
   repeat' (first|(apply ay;first|refine ao ?_|refine ak ?_|refine bd ?_|refine aL ?_|refine bI ?_|refine aI cx ?_|refine dE ?_|refine aD ?_|refine bF ?_)|refine al ?_|refine ab ?_|refine aa fun C=>?_|refine ae ?_|refine ah ?_|refine ai ?_|refine aE rfl ?_)
   refine⟨N-1,k+1,omq,⟨omq,fun j y hj hy=>?_⟩,?_⟩
   ·by_cases e:j=k
    ·rw [e,hx'] at hy;injection hy with hy;subst hy;exact hb2
    ·exact hno j y omq hy
   ·(refine aC _ _ rfl rfl ?_ ?_<;>exact tdy0)
 have hk':¬k<rs.length:=by simpa using h1
 have eR:rs.all kT=true:=List.all_eq_true.2 fun y hy=>by
  obtain⟨j,hj⟩:=List.getElem?_of_mem hy
  have:=(List.getElem?_eq_some_iff.1 hj).1
  exact hno j y omq hj
 rw [show eX rs fs=((decide (rs.length≤10)&&decide (fs.length≤6))&&qZ fs.length (gy fs)) by unfold eX;rw [eR,Bool.true_and]]
 clear hno h1 hN
 repeat' (first|(apply ay;refine ak ?_)|refine al ?_|refine ab ?_|refine aa fun C=>?_|refine ae ?_|refine ah ?_|refine au ?_)
 refine aP (fun k:Nat=>⟨dA [(1,.c (.pt 1 0)),(4,.c (.v (.int .i64 (k:Int))))],dq [(1,1,⟨27,0,0,true,[.ro rs.length 6 (acL rs),.ro fs.length 3 (acL fs)]⟩)],0,[1],66⟩)
  (fun N k=>k+N=fs.length∧∀j,j<k→gy fs j=true) fs.length 0 ⟨omq,fun j hj=>absurd hj (Nat.not_lt_zero j)⟩ ?_ ?_
 ·(refine aC _ _ rfl rfl ?_ ?_<;>exact tdy0)
 rintro N i ⟨hN,hno⟩
 try dsimp only
 repeat' (first|(apply ay;first|refine ao ?_|refine bd ?_|refine aL ?_|refine aY ?_|refine aO ?_)|refine al ?_|refine ab ?_|refine aa fun C=>?_|refine ae ?_)
 refine aj (by rfl) (fun h1=>?_) fun h1=>?_
 ·have hi':i<fs.length:=by simpa using h1
  obtain⟨x,hx'⟩:∃x,fs[i]? = some x:=⟨_,List.getElem?_eq_getElem hi'⟩
  have hxz:=E.szL_mem (List.mem_of_getElem? hx')
  obtain⟨n0,pA,pc,ps,bA,bc,bl,rfl,g0,⟨g1,g1'⟩,⟨g2,g2'⟩,-⟩:=bN (hf x (List.mem_of_getElem? hx'))
  simp only [E.sz,E.szL] at hxz
  have c1:=cF (s:=n0) omq
  have c2:=za2 (rs:=rs) omq hf kf omq n0
  have c3:=pX g1 g1' omq
  have c4:=ox g2 g2' omq
  have ef:gy fs i=((bW n0&&(decide (ps.length≤4)&&(fh bl&&sx ps)))&&(gf (q7 n0) fs==(i:Int))):=by unfold gy;rw [hx'];rfl
  have ef:gy fs i=((bW n0&&(fh bl&&(decide (ps.length≤4)&&sx ps)))&&(gf (q7 n0) fs==(i:Int))):=by
   rw [ef]
   cases bW n0<;>cases fh bl<;>cases decide (ps.length≤4)<;>rfl
  generalize bW n0=b1 at c1 ef
  generalize fh bl=b2 at c4 ef
  generalize (decide (ps.length≤4)&&sx ps)=b3 at c3 ef
  by_cases hi2:gf (q7 n0) fs=(i:Int)
  ·rw [hi2] at c2 ef
   rw [beq_self_eq_true,Bool.and_true] at ef
   cases b1<;>cases b2<;>cases b3
   case true.true.true =>
    repeat' (first|(apply ay;first|refine bO ?_|(refine aU ?_ ?_<;>intro hG<;>(try cases hG))|refine ao ?_|refine ak ?_|refine bd ?_|refine aL ?_|refine bI ?_|refine bu ?_|refine aI c1 ?_|refine aI c2 ?_|refine aI c3 ?_|refine aI c4 ?_|refine cG ?_|refine dE ?_|refine aG ?_|refine aD ?_|refine bF ?_|refine aF ?_|refine dn ?_)|refine al ?_|refine ab ?_|refine aa fun C=>?_|refine ae ?_|refine ah ?_|refine ai ?_|(refine aj (by rfl) ?_ ?_<;>intro hC<;>(try cases hC)))
    all_goals first
     | (exfalso;simp at hG;done)
     | (refine⟨N-1,i+1,omq,⟨omq,fun j hj=>?_⟩,?_⟩
        ·by_cases e:j=i
         ·subst e;exact ef
         ·exact hno j omq
        ·(refine aC _ _ rfl rfl ?_ ?_<;>(repeat' (first|exact TmOk.nil|exact RwOk.nil|refine TmOk.cons ?_ ?_|refine RwOk.cons ?_ ?_|rfl|(refine rnV_id' rfl ?_;exact byc)|(refine bv ?_;first|rfl|omega|(rw [aW omq omq];omega))|(refine aK rfl ?_;exact byc)|exact cb rfl rfl|(refine rw_mid (by rfl) (by rfl) ?_ ?_<;>exact byc)|(refine rw_rn' rfl rfl ?_;simp;done)))))
   all_goals
    rw [show qZ fs.length (gy fs)=false from jb hi' ef,Bool.and_false]
    repeat' (first|(apply ay;first|refine bO ?_|(refine aU ?_ ?_<;>intro hG<;>(try cases hG))|refine ao ?_|refine ak ?_|refine bd ?_|refine aL ?_|refine bI ?_|refine bu ?_|refine aI c1 ?_|refine aI c2 ?_|refine aI c3 ?_|refine aI c4 ?_|refine cG ?_|refine dE ?_|refine aG ?_|refine bF ?_|refine aF ?_|refine dn ?_)|refine al ?_|refine ab ?_|refine aa fun C=>?_|refine ae ?_|refine ah ?_|refine ai ?_|(refine aj (by rfl) ?_ ?_<;>intro hC<;>(try cases hC)))
    all_goals first
     | (refine am ?_;refine bi rfl aN ⟨?_,rfl⟩;rfl)
     | (exfalso;simp at hG;done)
  ·rw [show (gf (q7 n0) fs==(i:Int))=false from beq_eq_false_iff_ne.2 hi2,Bool.and_false] at ef
   rw [show qZ fs.length (gy fs)=false from jb hi' ef,Bool.and_false]
   cases b1<;>cases b2<;>cases b3
   all_goals
    repeat' (first|(apply ay;first|refine bO ?_|(refine aU ?_ ?_<;>intro hG<;>(try cases hG))|refine ao ?_|refine ak ?_|refine bd ?_|refine aL ?_|refine bI ?_|refine bu ?_|refine aI c1 ?_|refine aI c2 ?_|refine aI c3 ?_|refine aI c4 ?_|refine cG ?_|refine dE ?_|refine aG ?_|refine aD ?_|refine bF ?_|refine aF ?_|refine dn ?_)|refine al ?_|refine ab ?_|refine aa fun C=>?_|refine ae ?_|refine ah ?_|refine ai ?_|(refine aj (by rfl) ?_ ?_<;>intro hC<;>(try cases hC)))
    all_goals first
     | (refine am ?_;refine bi rfl aN ⟨?_,rfl⟩;rfl)
     | (exfalso;simp at hG;exact hi2 hG)
 ·have hi':¬i<fs.length:=by simpa using h1
  rw [show qZ fs.length (gy fs)=true from jS fun j hj=>hno j omq,Bool.and_true]
  by_cases h10:rs.length≤10
  ·rw [show decide (rs.length≤10)=true from decide_eq_true h10,Bool.true_and,show decide (fs.length≤6)=decide ((fs.length:Int)≤6) from decide_eq_decide.2 omq]
   repeat' (first|(apply ay;first|refine bO ?_|(refine aU ?_ ?_<;>intro hG<;>(try cases hG))|refine ak ?_|refine bd ?_|refine aL ?_|refine aY ?_|refine bz ?_|refine aF ?_)|refine al ?_|refine ab ?_|refine aa fun C=>?_|refine ae ?_|refine au ?_)
   all_goals first
    | (exfalso;simp only [decide_eq_true_iff,decide_eq_false_iff_not] at *;omega)
    | (refine am ?_;refine bi rfl aN ⟨?_,rfl⟩;rfl)
  ·rw [show decide (rs.length≤10)=false from decide_eq_false h10,Bool.false_and]
   repeat' (first|(apply ay;first|refine bO ?_|(refine aU ?_ ?_<;>intro hG<;>(try cases hG))|refine ak ?_|refine bd ?_|refine aL ?_|refine aY ?_|refine bz ?_|refine aF ?_)|refine al ?_|refine ab ?_|refine aa fun C=>?_|refine ae ?_|refine au ?_)
   all_goals first
    | (exfalso;simp only [decide_eq_true_iff,decide_eq_false_iff_not] at *;omega)
    | (refine am ?_;refine bi rfl aN ⟨?_,rfl⟩;rfl)
section
variable {ops:Array Oper}{Q:Exit→Act→World→Prop}{C:Ctx}{H:List (Nat×Oper×Inf)}{i:Nat}{r:List Nat}{dr:Bool}
variable {tm:Nat→AV}{hp:Nat→Option Row}{gn L:Nat}{us:List Nat}
end
def Byt (l:List E):Prop:=∀e∈l,∃x:Nat,x<256∧e=.int .u8 (x:Int)
theorem Byt.enc {l:List E}(h:Byt l):∀e∈l,e.enc.length=1:=fun e he=>by obtain⟨x,-,rfl⟩:=h e he;rfl
structure GVal where
 k:Int
 n:Int
 s:ByteArray
structure GCell where
 refs:Int
 v:GVal
def gc (n:Int):Int:=(n+2147483648) % 4294967296-2147483648
theorem and32 (n:Int):bits .and .i64 n 4294967295=n % 4294967296:=by
 have h1:(BitVec.ofInt 64 n).toNat=(n % 18446744073709551616).toNat:=by rw [BitVec.toNat_ofInt];rfl
 have h2:(BitVec.ofInt 64 4294967295).toNat=2 ^ 32-1:=by rfl
 show IntKind.i64.wrap ((BitVec.ofInt 64 n &&& BitVec.ofInt 64 4294967295).toNat:Int)=_
 rw [BitVec.toNat_and,h1,h2,Nat.and_two_pow_sub_one_eq_mod,IntKind.wrap_i64]
 omega
theorem oz (n:Int)(w:World)(h : -9223372036854775808≤n∧n≤9223372036854775807):Calls prog 156 #[.int .i64 n] w fun e w'=>e=.returned (.int .i64 (gc n))∧w'=w:=by
 have h1:=and32 n
 have hw : -2147483648≤gc n∧gc n≤2147483647:=by unfold gc;omega
 by_cases h2:2147483647<n % 4294967296
 ·have e:gc n=n % 4294967296-4294967296:=by unfold gc;omega
  rw [e]
  clear e hw
  go_enter func156,Tryz.ntmps156
  go_wp2
  go_ret
  exact⟨rfl,rfl⟩
 ·have e:gc n=n % 4294967296:=by unfold gc;omega
  rw [e]
  clear e hw
  go_enter func156,Tryz.ntmps156
  go_wp2
  go_ret
  exact⟨rfl,rfl⟩
def I64 (z:Int):Prop := -9223372036854775808≤z∧z≤9223372036854775807
theorem sA {n:Int}(hn:I64 n):Ctr prog 156 [.c (.v (.int .i64 n))] [] (.c (.v (.int .i64 (gc n)))) []:=by
 refine nL (us:=[.int .i64 n]) (by kernel_rfl) rfl (fun w St φ K us' h=>?_) fun w=>(oz n w hn).mono fun e w' h=>⟨h.1,by obtain⟨-,rfl⟩:=h;exact Below.refl _ _⟩
 simp only [VRL,VR,CR] at h
 obtain⟨u,us1,rfl,⟨rfl,-⟩,rfl⟩:=h
 rfl
theorem vK (n:Int):I64 (gc n):=by unfold I64 gc;omega
theorem pY {n:Int}(hn:I64 n):Ctr prog 107 [.c (.v (.int .i64 n))] [] (.ag [.v (.int .i64 1),.v (.int .i64 (gc n)),.v (.string ⟨#[]⟩)]) []:=by
 have hc:=sA hn
 refine av func107 rfl rfl ?_
 repeat' (first|(apply ay;first|refine ao ?_|refine aI hc ?_|refine cG ?_|refine dn ?_|refine aS ?_)|refine al ?_|refine ab ?_|refine aa fun C=>?_|refine ae ?_)
 refine am ?_;refine bi rfl (cq (bC rfl (bC rfl (bC rfl bj)))) ⟨?_,rfl⟩
 rfl
theorem yt (s:ByteArray):Ctr prog 158 [.c (.v (.string s))] [] (.ag [.v (.int .i64 2),.v (.int .i64 0),.v (.string s)]) []:=by
 refine av func158 rfl rfl ?_
 repeat' (first|(apply ay;first|refine ao ?_|refine cG ?_|refine dn ?_|refine aS ?_)|refine al ?_|refine ab ?_|refine aa fun C=>?_|refine ae ?_)
 refine am ?_;refine bi rfl (cq (bC rfl (bC rfl (bC rfl bj)))) ⟨?_,rfl⟩
 rfl
end Go.Proofs.YtmnneflenebgmaaGreat
