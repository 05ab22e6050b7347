/- Rules, functions, programs that are right (plain); what the reference says of rules, parameters, bodies. -/
import Derived.Test.YtnjfnhoipnbpeaaGreatDoorTxtPAJ
namespace Go.Proofs.YtnjfnhoipnbpeaaGreatDoor
open Go.RowKit
set_option maxRecDepth 100000
def ruleB (k:Int)(p:E)(l:List E):Bool:=inR k 1 4&&(bodyB l&&(if k=4 then exprB p else zeroX p))
def ruleE (e:E):Bool:=match e with | .agg [.int _ k,p,.lst _ _ _ _ l]=>ruleB k p l|_=>false
def allN (n:Nat)(p:Nat→Bool):Bool:=(List.range n).all p
theorem zb10 {n:Nat}{p:Nat→Bool}(h:∀j,j<n→p j=true):allN n p=true:=List.all_eq_true.2 fun j hj=>h j (List.mem_range.1 hj)
theorem za9 {n:Nat}{p:Nat→Bool}{j:Nat}(h:j<n)(h2:p j=false):allN n p=false:=by
 cases ha:allN n p with
 | false=>rfl
 | true=>rw [List.all_eq_true.1 ha j (List.mem_range.2 h)] at h2;cases h2
def parAt (l:List E)(k:Nat):Bool:=nameK (strB (l[k]?.getD (.int .i64 0)))&&!hasB (l.take k) (strB (l[k]?.getD (.int .i64 0)))
def parB (l:List E):Bool:=allN l.length (parAt l)
def fnNm (e:E):ByteArray:=match e with | .agg (.str s :: _)=>s|_=>ByteArray.empty
def fnOkF (e:E):Bool:=match e with | .agg [.str s,.lst _ _ _ _ ps,.lst _ _ _ _ l]=>nameK s&&(decide (ps.length≤4)&&(bodyB l&&parB ps))|_=>false
def isFn (s:ByteArray)(e:E):Bool:=(fnNm e).toList==s.toList
def fnAtB (l:List E)(i:Nat):Bool:=fnOkF (l[i]?.getD (.int .i64 0))&&(idxF (isFn (fnNm (l[i]?.getD (.int .i64 0)))) l==(i:Int))
def progB (rs fs:List E):Bool:=(decide (rs.length≤10)&&decide (fs.length≤6))&&(rs.all ruleE&&allN fs.length (fnAtB fs))
def progE (e:E):Bool:=match e with | .agg [.lst _ _ _ _ rs,.lst _ _ _ _ fs]=>progB rs fs|_=>false
theorem zm16:∀(ks:List E) (a:Nat),(∀e∈ks,e.enc.length=1)→(acL ks).take a=acL (ks.take a)
 | _,0,_=>rfl
 | [],a+1,_=>rfl
 | e :: r,a+1,h=>by
  have h1:=h e List.mem_cons_self
  rw [←zl13] at h1
  show ((acE e++acL r).take (a+1))=acE e++acL (r.take a)
  obtain⟨c,hc⟩:=List.length_eq_one_iff.1 h1
  rw [hc]
  show c :: (acL r).take a=c :: acL (r.take a)
  rw [zm16 r a fun e he=>h e (List.mem_cons_of_mem _ he)]
section
variable {ops:Array Oper}{Q:Exit→Act→World→Prop}{C:Ctx}{H:List (Nat×Oper×Inf)}{i:Nat}{r:List Nat}{dr:Bool}
variable {tm:Nat→AV}{hp:Nat→Option Row}{gn L:Nat}{us:List Nat}
theorem e_hd {ty:TypeId}{gd:Option (Nat×Bool)}{ps:String}{af:Array Edge}{t:Nat}{x hi:Operand}{ks:List E}{a:Nat}{z1:Int}{ev:Operand→AV}{hp:Nat→Option Row}{id:Nat}(hk:∀e∈ks,e.enc.length=1)(hx:ev x=.c (.ro ks.length 1 (acL ks)))(h1:ev hi=.c (.v (.int .i64 z1)))(e1:z1=(a:Int))(ha:a≤ks.length) :
 EffD Tryz.prog (⟨some t,.slice 38 x none (some hi) none,ty,ps,af,gd⟩:Oper) ev hp id=some (.c (.ro (ks.take a).length 1 (acL (ks.take a))),.nop):=by
 show (if isStr (ev x)=true then _ else dSlice Tryz.prog hp id 38 (ev x) none (some (ev hi)))=_
 rw [hx,if_neg (by intro h;cases h),h1]
 unfold dSlice
 rw [Tryz.underlying38]
 have hs:(Tryz.prog.info? 9).map (·.size)=some 1:=by kernel_rfl
 simp only [hs]
 subst e1
 have b1:bnd ks.length (some (.c (.v (.int .i64 (a:Int)))))=some a:=by simp [bnd]
 have b2:bnd 0 none=some 0:=rfl
 rw [b1,b2]
 simp only
 have hl:(ks.take a).length=a:=by rw [List.length_take];omega
 rw [if_pos ⟨trivial,Nat.zero_le _,ha⟩,Nat.sub_zero,hl]
 simp only [Nat.mul_one]
 unfold subL
 rw [List.drop_zero,zm16 ks a hk]
theorem o_hd {ty:TypeId}{gd:Option (Nat×Bool)}{ps:String}{af:Array Edge}{t:Nat}{x hi:Operand}{ks:List E}{z1:Int}(a:Nat)(hk:∀e∈ks,e.enc.length=1)(ha:a≤ks.length)(e1:z1=(a:Int))(h:Walk Tryz.prog ops Q C dr (keepH dr (i,(⟨some t,.slice 38 x none (some hi) none,ty,ps,af,gd⟩:Oper),⟨fpO (AS.ev ⟨tm,hp,gn,us,L⟩) (⟨some t,.slice 38 x none (some hi) none,ty,ps,af,gd⟩:Oper),[],[],.c (.ro (ks.take a).length 1 (acL (ks.take a)))⟩) H) r ⟨upd tm t (.c (.ro (ks.take a).length 1 (acL (ks.take a)))),hp,gn,us,L⟩)
 (ht:Nat.blt t L=true:=by exact rfl) (hg:gw ops tm (⟨some t,.slice 38 x none (some hi) none,ty,ps,af,gd⟩:Oper)=some true:=by exact rfl) (hx:AS.ev ⟨tm,hp,gn,us,L⟩ x=.c (.ro ks.length 1 (acL ks)):=by exact rfl) (h1:AS.ev ⟨tm,hp,gn,us,L⟩ hi=.c (.v (.int .i64 z1)):=by exact rfl)
 (hc:chk dr ops i (⟨some t,.slice 38 x none (some hi) none,ty,ps,af,gd⟩:Oper) ⟨fpO (AS.ev ⟨tm,hp,gn,us,L⟩) (⟨some t,.slice 38 x none (some hi) none,ty,ps,af,gd⟩:Oper),[],[],.c (.ro (ks.take a).length 1 (acL (ks.take a)))⟩ H=true:=by first|(with_reducible exact zj2)|kernel_rfl) :
 WalkO Tryz.prog ops Q C dr H i (⟨some t,.slice 38 x none (some hi) none,ty,ps,af,gd⟩:Oper) r ⟨tm,hp,gn,us,L⟩:=ze2 h ht hg (e_hd hk hx h1 e1 ha) hc
theorem n_hd {ty:TypeId}{gd:Option (Nat×Bool)}{ps:String}{af:Array Edge}{t:Nat}{x hi:Operand}{ks:List E}{z1:Int}(a:Nat)(hk:∀e∈ks,e.enc.length=1)(ha:a≤ks.length)(e1:z1=(a:Int))(h:Walk Tryz.prog ops Q C false [] r ⟨upd tm t (.c (.ro (ks.take a).length 1 (acL (ks.take a)))),hp,gn,us,L⟩)
 (ht:Nat.blt t L=true:=by exact rfl) (hg:gw ops tm (⟨some t,.slice 38 x none (some hi) none,ty,ps,af,gd⟩:Oper)=some true:=by exact rfl) (hx:AS.ev ⟨tm,hp,gn,us,L⟩ x=.c (.ro ks.length 1 (acL ks)):=by exact rfl) (h1:AS.ev ⟨tm,hp,gn,us,L⟩ hi=.c (.v (.int .i64 z1)):=by exact rfl) :
 WalkO Tryz.prog ops Q C false [] i (⟨some t,.slice 38 x none (some hi) none,ty,ps,af,gd⟩:Oper) r ⟨tm,hp,gn,us,L⟩:=zz1 h ht hg (e_hd hk hx h1 e1 ha)
end
theorem zn16 {l:List E}(hl:∀e∈l,e.Ty Tryz.prog 71)(hk:∀e∈l,e.enc.length=6)(hlen:l.length+E.szL l≤1048576):Ctr Tryz.prog 28 [.c (.ro l.length 6 (acL l))] [] (.c (.v (.bool (bodyB l)))) []:=by
 refine ze1 Tryz.func28 rfl rfl ?_
 repeat' (first|(apply f_wo;(apply f_as;refine zq (v:=.c _) ?_))|(apply f_w;first|refine zj ?_|refine zb ?_)|refine za fun C=>?_|refine zd ?_|refine ze ?_)
 refine zv1 (fun k:Nat=>⟨tmsF [(0,.c (.ro l.length 6 (acL l))),(3,.c (.v (.int .i64 (k:Int))))],hpsF [],0,[],19⟩)
  (fun N k=>k+N=l.length∧∀j y,j<k→l[j]? = some y→stmtB y=true) l.length 0 ⟨by omega,fun j y hj=>absurd hj (Nat.not_lt_zero j)⟩ ?_ ?_
 ·(refine zl1 _ _ rfl rfl ?_ ?_<;>(repeat' (first|exact TmOk.nil|exact RwOk.nil|refine TmOk.cons ?_ ?_|refine RwOk.cons ?_ ?_|rfl|(refine rnV_id' rfl ?_;exact byc)|(refine zp1 ?_;first|rfl|omega|(rw [zw (by omega) (by omega)];omega))|(refine zb1 rfl ?_;exact byc)|exact zc2 rfl rfl|(refine zq1 (by rfl) (by rfl) ?_ ?_<;>exact byc)|(refine rw_rn' rfl rfl ?_;simp;done))))
 rintro N k ⟨hN,hr⟩
 try dsimp only
 repeat' (first|(apply f_wo;first|(apply f_mv;refine zv (v:=.c _) ?_)|(apply f_bi;refine zy1 ?_)|(apply zg3;refine zs1 ?_))|(apply f_w;first|refine zj ?_|refine zb ?_)|refine za fun C=>?_|refine zd ?_)
 refine zi (by rfl) (fun h1=>?_) fun h1=>?_
 ·have hk':k<l.length:=by simpa using h1
  obtain⟨x,hx'⟩:∃x,l[k]? = some x:=⟨_,List.getElem?_eq_getElem hk'⟩
  have hxz:=E.szL_mem (List.mem_of_getElem? hx')
  have hxt:=hl x (List.mem_of_getElem? hx')
  have cx:=zl16 hxt (by omega)
  cases hb2:stmtB x with
  | false =>
   have e0:bodyB l=false:=by
    unfold bodyB
    cases ha2:l.all stmtB with
    | false=>rw [Bool.and_false]
    | true=>rw [List.all_eq_true.1 ha2 x (List.mem_of_getElem? hx')] at hb2;cases hb2
   rw [hb2] at cx
   rw [e0]
   obtain⟨z0,z1,z2,zA,zc,zx,yA,yc,ya,wA,wc,yb,rfl,-⟩:=zt1 hxt
   repeat' (first|(apply f_wo;first|(apply f_mv;refine zv (v:=.c _) ?_)|(apply f_as;refine zq (v:=.c _) ?_)|(apply f_ld;refine zq2 ?_)|(apply f_ca;refine zk1 cx ?_)|(apply f_ia;refine n_ix ?_)|(apply f_no;refine zu2 ?_))|(apply f_w;first|refine zj ?_|refine zb ?_)|refine za fun C=>?_|refine zd ?_|refine ze ?_|refine zg ?_|refine za1 rfl ?_)
   refine zh ?_;refine ret0 rfl zg1 ⟨?_,rfl⟩;rfl
  | true =>
   have hb3:=hb2
   rw [hb2] at cx
   obtain⟨z0,z1,z2,zA,zc,zx,yA,yc,ya,wA,wc,yb,rfl,-⟩:=zt1 hxt
   repeat' (first|(apply f_wo;first|(apply f_mv;refine zv (v:=.c _) ?_)|(apply f_as;refine zq (v:=.c _) ?_)|(apply f_ld;refine zq2 ?_)|(apply f_ca;refine zk1 cx ?_)|(apply f_ia;refine n_ix ?_)|(apply zd2;refine zj1 ?_)|(apply f_no;refine zu2 ?_))|(apply f_w;first|refine zj ?_|refine zb ?_)|refine za fun C=>?_|refine zd ?_|refine ze ?_|refine zg ?_|refine zf1 rfl ?_)
   refine⟨N-1,k+1,by omega,⟨by omega,fun j y hj hy=>?_⟩,?_⟩
   ·by_cases e:j=k
    ·rw [e,hx'] at hy;injection hy with hy;subst hy;exact hb3
    ·exact hr j y (by omega) hy
   ·(refine zl1 _ _ rfl rfl ?_ ?_<;>(repeat' (first|exact TmOk.nil|exact RwOk.nil|refine TmOk.cons ?_ ?_|refine RwOk.cons ?_ ?_|rfl|(refine rnV_id' rfl ?_;exact byc)|(refine zp1 ?_;first|rfl|omega|(rw [zw (by omega) (by omega)];omega))|(refine zb1 rfl ?_;exact byc)|exact zc2 rfl rfl|(refine zq1 (by rfl) (by rfl) ?_ ?_<;>exact byc)|(refine rw_rn' rfl rfl ?_;simp;done))))
 ·have hk':¬k<l.length:=by simpa using h1
  rw [show bodyB l=decide ((l.length:Int)≤20) by
   unfold bodyB
   rw [List.all_eq_true.2 fun y hy=>by
    obtain⟨j,hj⟩:=List.getElem?_of_mem hy
    have:=(List.getElem?_eq_some_iff.1 hj).1
    exact hr j y (by omega) hj,Bool.and_true]
   exact decide_eq_decide.2 (by omega)]
  repeat' (first|(apply f_wo;first|(apply f_mv;refine zv (v:=.c _) ?_)|(apply f_as;refine zq (v:=.c _) ?_)|(apply f_bi;refine zy1 ?_)|(apply zo4;refine zl2 ?_))|(apply f_w;first|refine zj ?_|refine zb ?_)|refine za fun C=>?_|refine zd ?_|refine zu ?_)
  refine zh ?_;refine ret0 rfl zg1 ⟨?_,rfl⟩;rfl
theorem len0 (l:List E):((l.length:Int)==0)=decide (l=[]):=by
 cases l with
 | nil=>rfl
 | cons x r =>
  rw [show ((((x :: r).length:Nat):Int)==0)=false from beq_eq_false_iff_ne.2 (by rw [List.length_cons];omega)]
  rfl
theorem l10Zero_c {e:E}(he:e.Ty Tryz.prog 45)(hsz:e.sz≤1048576):Ctr Tryz.prog 50 [.ag (acE e)] [] (.c (.v (.bool (zeroX e)))) []:=by
 obtain⟨k0,n0,s0,xA,xc,l,rfl,-⟩:=zh1 he
 simp only [E.sz,E.szL] at hsz
 rw [show zeroX (.agg [.int .i64 k0,.int .i64 n0,.str s0,.lst 4 45 xA xc l])=(decide (k0=0)&&(decide (n0=0)&&(emB s0&&decide (l.length=0)))) from rfl]
 refine ze1 Tryz.func50 rfl rfl ?_
 repeat' (first|(apply f_wo;first|(apply f_gs;refine n_sk ?_)|(apply f_mv;(refine zx1 ?_ ?_<;>intro hG<;>(try cases hG)))|(apply f_as;refine zq (v:=.c _) ?_)|(apply f_fa;refine n_fa ?_)|(apply f_ld;refine zn1 ?_)|(apply f_bi;refine zy1 ?_)|(apply zr1;first|refine zm ?_|refine zr2 ?_)|(apply f_pk;refine zw1 (v:=.c _) ?_)|refine n_bo ?_)|(apply f_w;first|refine zj ?_|refine zb ?_)|refine za fun C=>?_|refine zd ?_)
 all_goals first
  | (refine zh ?_;refine ret0 rfl zg1 ⟨?_,rfl⟩;first|rfl|(simp_all [emB];done)|(simp_all [emB];exact len0 _))
theorem l10Rule_c {k:Int}{p:E}{l:List E}(hp:p.Ty Tryz.prog 45)(hpz:p.sz≤1048576)(hl:∀e∈l,e.Ty Tryz.prog 71)(hk:∀e∈l,e.enc.length=6)(hlen:l.length+E.szL l≤1048576):Ctr Tryz.prog 24 [.ag (.v (.int .i64 k) :: (acE p++[.ro l.length 6 (acL l)]))] [] (.c (.v (.bool (ruleB k p l)))) []:=by
 have c1:=zn16 hl hk hlen
 have c2:=l10Zero_c hp hpz
 have c3:=zo9 hp hpz
 obtain⟨k0,n0,s0,xA,xc,pl,rfl,-⟩:=zh1 hp
 unfold ruleB
 generalize bodyB l=b1 at c1 ⊢
 generalize zeroX _=b2 at c2 ⊢
 generalize exprB _=b3 at c3 ⊢
 by_cases h:k=1∨k=2∨k=3
 ·have h4:¬k=4:=by omega
  rw [if_neg h4,show inR k 1 4=true by simp [inR];omega]
  rcases h with rfl|rfl|rfl
  all_goals
   cases b2
   all_goals
    refine ze1 Tryz.func24 rfl rfl ?_
    repeat' (first|(apply f_wo;first|(apply f_gs;refine n_sk ?_)|(apply f_mv;(refine zx1 ?_ ?_<;>intro hG<;>(try cases hG)))|(apply f_as;refine zq (v:=.c _) ?_)|(apply f_fa;refine n_fa ?_)|(apply f_ld;refine zn1 ?_)|(apply f_ca;first|refine zk1 c1 ?_|refine zk1 c2 ?_)|(apply zr1;refine zm ?_)|(apply f_pk;refine zw1 (v:=.c _) ?_)|refine n_bo ?_|refine zz1 ?_)|(apply f_w;first|refine zj ?_|refine zb ?_)|refine za fun C=>?_|refine zd ?_|refine ze ?_|refine zg ?_|refine za1 rfl ?_|refine zf1 rfl ?_)
    refine zh ?_;refine ret0 rfl zg1 ⟨?_,rfl⟩
    cases b1<;>rfl
 ·by_cases h4:k=4
  ·subst h4
   rw [if_pos rfl,show inR 4 1 4=true from rfl]
   cases b3
   all_goals
    refine ze1 Tryz.func24 rfl rfl ?_
    repeat' (first|(apply f_wo;first|(apply f_gs;refine n_sk ?_)|(apply f_mv;(refine zx1 ?_ ?_<;>intro hG<;>(try cases hG)))|(apply f_as;refine zq (v:=.c _) ?_)|(apply f_fa;refine n_fa ?_)|(apply f_ld;refine zn1 ?_)|(apply f_ca;first|refine zk1 c1 ?_|refine zk1 c3 ?_)|(apply zr1;refine zm ?_)|(apply f_pk;refine zw1 (v:=.c _) ?_)|refine n_bo ?_|refine zz1 ?_)|(apply f_w;first|refine zj ?_|refine zb ?_)|refine za fun C=>?_|refine zd ?_|refine ze ?_|refine za1 rfl ?_|refine zf1 rfl ?_)
    refine zh ?_;refine ret0 rfl zg1 ⟨?_,rfl⟩
    cases b1<;>rfl
  ·rw [show inR k 1 4=false by simp [inR];omega,Bool.false_and]
   have h1:¬k=1:=by omega
   have h2:¬k=2:=by omega
   have h3:¬k=3:=by omega
   refine ze1 Tryz.func24 rfl rfl ?_
   repeat' (first|(apply f_wo;first|(apply f_as;refine zq (v:=.c _) ?_)|(apply f_fa;refine n_fa ?_)|(apply f_ld;refine zn1 ?_)|(apply zr1;refine zm ?_)|refine n_bo ?_)|(apply f_w;first|refine zj ?_|refine zb ?_)|refine za fun C=>?_|refine zd ?_|refine ze ?_)
   iterate 12 ((try (first|refine zi (by rfl) (fun hC=>absurd (eq_of_beq hC) (by assumption)) fun hC=>?_|refine zf1 rfl ?_));(try repeat' (first|(apply f_wo;first|(apply f_as;refine zq (v:=.c _) ?_)|(apply zr1;refine zm ?_))|(apply f_w;first|refine zj ?_|refine zb ?_)|refine za fun C=>?_|refine zd ?_|refine zg ?_)))
   refine zh ?_;refine ret0 rfl zg1 ⟨?_,rfl⟩;rfl
theorem zt18 {l:List E}(hl:∀e∈l,e.Ty Tryz.prog 9)(hk:∀e∈l,e.enc.length=1)(hlen:l.length+E.szL l≤1048576):Ctr Tryz.prog 27 [.c (.ro l.length 1 (acL l))] [] (.c (.v (.bool (decide (l.length≤4)&&parB l)))) []:=by
 refine ze1 Tryz.func27 rfl rfl ?_
 repeat' (first|(apply f_wo;(apply f_as;refine zq (v:=.c _) ?_))|(apply f_w;first|refine zj ?_|refine zb ?_)|refine za fun C=>?_|refine zd ?_|refine ze ?_)
 refine zv1 (fun k:Nat=>⟨tmsF [(0,.c (.ro l.length 1 (acL l))),(3,.c (.v (.int .i64 (k:Int))))],hpsF [],0,[],29⟩)
  (fun N k=>k+N=l.length∧∀j,j<k→parAt l j=true) l.length 0 ⟨by omega,fun j hj=>absurd hj (Nat.not_lt_zero j)⟩ ?_ ?_
 ·(refine zl1 _ _ rfl rfl ?_ ?_<;>(repeat' (first|exact TmOk.nil|exact RwOk.nil|refine TmOk.cons ?_ ?_|refine RwOk.cons ?_ ?_|rfl|(refine rnV_id' rfl ?_;exact byc)|(refine zp1 ?_;first|rfl|omega|(rw [zw (by omega) (by omega)];omega))|(refine zb1 rfl ?_;exact byc)|exact zc2 rfl rfl|(refine zq1 (by rfl) (by rfl) ?_ ?_<;>exact byc)|(refine rw_rn' rfl rfl ?_;simp;done))))
 rintro N k ⟨hN,hr⟩
 try dsimp only
 repeat' (first|(apply f_wo;first|(apply f_mv;refine zv (v:=.c _) ?_)|(apply f_bi;refine zy1 ?_)|(apply zg3;refine zs1 ?_))|(apply f_w;first|refine zj ?_|refine zb ?_)|refine za fun C=>?_|refine zd ?_)
 refine zi (by rfl) (fun h1=>?_) fun h1=>?_
 ·have hk':k<l.length:=by simpa using h1
  obtain⟨x,hx'⟩:∃x,l[k]? = some x:=⟨_,List.getElem?_eq_getElem hk'⟩
  have hxz:=E.szL_mem (List.mem_of_getElem? hx')
  obtain⟨z,rfl,-⟩:=(hl x (List.mem_of_getElem? hx')).str_ Tryz.underlying9
  simp only [E.sz] at hxz
  have c1:=zm3 (s:=z) (by omega)
  have hll:(l.take k).length≤1048576:=by rw [List.length_take];omega
  have c2:=zr18 (l:=l.take k) (fun e he=>hl e (List.mem_of_mem_take he)) hll z
  have ep:parAt l k=(nameK z&&!hasB (l.take k) z):=by unfold parAt;rw [hx'];rfl
  generalize nameK z=b1 at c1 ep
  generalize hasB (l.take k) z=b2 at c2 ep
  cases b1<;>cases b2
  case true.false =>
   repeat' (first|(apply d_wo;refine o_hd k hk (by omega) rfl ?_)|(apply f_wo;first|(apply f_mv;refine zv (v:=.c _) ?_)|(apply f_as;refine zq (v:=.c _) ?_)|(apply zd2;refine zj1 ?_))|(apply f_w;first|refine zj ?_|refine zb ?_)|(apply d_wo;first|(apply d_bo;(refine o_gm ?_ ?_<;>intro hG<;>(try cases hG)))|(apply d_mv;refine ze2 ?_)|(apply d_ld;refine zo19 ?_)|(apply d_ca;first|refine zu3 c1 ?_|refine zu3 c2 ?_)|(apply d_ia;refine o_ix ?_)|refine ze2 ?_)|(apply d_w;first|refine zj ?_|refine zb ?_)|refine za fun C=>?_|refine zn (by kernel_rfl) (by kernel_rfl) fun C=>?_|refine zd ?_|refine ze ?_|refine zg ?_|refine zf1 rfl ?_)
   refine⟨N-1,k+1,by omega,⟨by omega,fun j hj=>?_⟩,?_⟩
   ·by_cases e:j=k
    ·subst e;exact ep
    ·exact hr j (by omega)
   ·(refine zl1 _ _ rfl rfl ?_ ?_<;>(repeat' (first|exact TmOk.nil|exact RwOk.nil|refine TmOk.cons ?_ ?_|refine RwOk.cons ?_ ?_|rfl|(refine rnV_id' rfl ?_;exact byc)|(refine zp1 ?_;first|rfl|omega|(rw [zw (by omega) (by omega)];omega))|(refine zb1 rfl ?_;exact byc)|exact zc2 rfl rfl|(refine zq1 (by rfl) (by rfl) ?_ ?_<;>exact byc)|(refine rw_rn' rfl rfl ?_;simp;done))))
  all_goals
   rw [show parB l=false from za9 hk' ep,Bool.and_false]
   repeat' (first|(apply d_wo;refine o_hd k hk (by omega) rfl ?_)|(apply f_wo;(apply f_as;refine zq (v:=.c _) ?_))|(apply f_w;first|refine zj ?_|refine zb ?_)|(apply d_wo;first|(apply d_gs;refine o_sk ?_)|(apply d_bo;(refine o_gm ?_ ?_<;>intro hG<;>(try cases hG)))|(apply d_mv;refine ze2 ?_)|(apply d_ld;refine zo19 ?_)|(apply d_ca;first|refine zu3 c1 ?_|refine zu3 c2 ?_)|(apply d_ia;refine o_ix ?_)|refine ze2 ?_)|(apply d_w;first|refine zj ?_|refine zb ?_)|refine za fun C=>?_|refine zn (by kernel_rfl) (by kernel_rfl) fun C=>?_|refine zd ?_|refine ze ?_|refine zg ?_|refine za1 rfl ?_)
   refine zh ?_;refine ret0 rfl zg1 ⟨?_,rfl⟩;rfl
 ·have hk':¬k<l.length:=by simpa using h1
  rw [show parB l=true from zb10 fun j hj=>hr j (by omega),Bool.and_true,show decide (l.length≤4)=decide ((l.length:Int)≤4) from decide_eq_decide.2 (by omega)]
  repeat' (first|(apply f_wo;first|(apply f_mv;refine zv (v:=.c _) ?_)|(apply f_as;refine zq (v:=.c _) ?_)|(apply f_bi;refine zy1 ?_)|(apply zo4;refine zl2 ?_))|(apply f_w;first|refine zj ?_|refine zb ?_)|refine za fun C=>?_|refine zd ?_|refine zu ?_)
  refine zh ?_;refine ret0 rfl zg1 ⟨?_,rfl⟩;rfl
theorem zj4 {x:Int}(h:(Lit.int .i64 x).wf=true):(E.int .i64 x).Ty Tryz.prog 3:=by simp only [E.Ty];exact⟨Tryz.underlying3,h⟩
theorem l10Fn_c {rs fs:List E}(hr:rs.length≤1048576)(hl:∀e∈fs,e.Ty Tryz.prog 41)(hk:∀e∈fs,e.enc.length=3)(hlen:fs.length≤1048576)(s:ByteArray):Ctr Tryz.prog 26 [.ag [.ro rs.length 6 (acL rs),.ro fs.length 3 (acL fs)],.c (.v (.string s))] [] (.c (.v (.int .i64 (idxF (isFn s) fs)))) []:=by
 refine ze1 Tryz.func26 rfl rfl ?_
 repeat' (first|(apply f_wo;first|(apply f_as;refine zq (v:=.c _) ?_)|refine n_bo ?_)|(apply f_w;first|refine zj ?_|refine zb ?_)|refine za fun C=>?_|refine zd ?_|refine ze ?_)
 refine zv1 (fun k:Nat=>⟨tmsF [(1,.c (.v (.string s))),(2,.c (.pt 2 0)),(5,.c (.v (.int .i64 (k:Int))))],hpsF [(2,2,⟨31,0,0,true,[.ro rs.length 6 (acL rs),.ro fs.length 3 (acL fs)]⟩)],0,[2],22⟩)
  (fun N k=>k+N=fs.length∧∀j y,j<k→fs[j]? = some y→isFn s y=false) fs.length 0 ⟨by omega,fun j y hj=>absurd hj (Nat.not_lt_zero j)⟩ ?_ ?_
 ·(refine zl1 _ _ rfl rfl ?_ ?_<;>(repeat' (first|exact TmOk.nil|exact RwOk.nil|refine TmOk.cons ?_ ?_|refine RwOk.cons ?_ ?_|rfl|(refine rnV_id' rfl ?_;exact byc)|(refine zp1 ?_;first|rfl|omega|(rw [zw (by omega) (by omega)];omega))|(refine zb1 rfl ?_;exact byc)|exact zc2 rfl rfl|(refine zq1 (by rfl) (by rfl) ?_ ?_<;>exact byc)|(refine rw_rn' rfl rfl ?_;simp;done))))
 rintro N k ⟨hN,hno⟩
 try dsimp only
 repeat' (first|(apply f_wo;first|(apply f_mv;refine zv (v:=.c _) ?_)|(apply f_fa;refine n_fa ?_)|(apply f_ld;refine zn1 ?_)|(apply f_bi;refine zy1 ?_)|(apply zg3;refine zs1 ?_))|(apply f_w;first|refine zj ?_|refine zb ?_)|refine za fun C=>?_|refine zd ?_)
 refine zi (by rfl) (fun h1=>?_) fun h1=>?_
 ·have hk':k<fs.length:=by simpa using h1
  obtain⟨x,hx'⟩:∃x,fs[k]? = some x:=⟨_,List.getElem?_eq_getElem hk'⟩
  obtain⟨n0,pA,pc,ps,bA,bc,bl,rfl,-⟩:=zx2 (hl x (List.mem_of_getElem? hx'))
  repeat' (first|(apply f_wo;first|(apply f_mv;refine zv (v:=.c _) ?_)|(apply f_fa;first|refine n_fa ?_|refine zc7 ?_)|(apply f_ld;first|refine zn1 ?_|refine zz3 ?_)|(apply f_ia;refine n_ix ?_)|(apply zr1;refine zr2 ?_))|(apply f_w;first|refine zj ?_|refine zb ?_)|refine za fun C=>?_|refine zd ?_|refine ze ?_|refine zg ?_)
  refine zi (by rfl) (fun h2=>?_) fun h2=>?_
  ·rw [zb7 (fun j y hj hy=>hno j y hj hy) hx' (show isFn s _=true from h2)]
   repeat' (first|(apply f_wo;first|(apply f_mv;refine zv (v:=.c _) ?_)|(apply f_as;refine zq (v:=.c _) ?_))|(apply f_w;first|refine zj ?_|refine zb ?_)|refine za fun C=>?_|refine zd ?_)
   refine zh ?_;refine ret0 rfl zg1 ⟨?_,rfl⟩;rfl
  ·repeat' (first|(apply f_wo;first|(apply f_mv;refine zv (v:=.c _) ?_)|(apply f_as;refine zq (v:=.c _) ?_)|(apply zd2;refine zj1 ?_))|(apply f_w;first|refine zj ?_|refine zb ?_)|refine za fun C=>?_|refine zg ?_)
   refine⟨N-1,k+1,by omega,⟨by omega,fun j y hj hy=>?_⟩,?_⟩
   ·by_cases e:j=k
    ·rw [e,hx'] at hy;injection hy with hy;subst hy;exact h2
    ·exact hno j y (by omega) hy
   ·(refine zl1 _ _ rfl rfl ?_ ?_<;>(repeat' (first|exact TmOk.nil|exact RwOk.nil|refine TmOk.cons ?_ ?_|refine RwOk.cons ?_ ?_|rfl|(refine rnV_id' rfl ?_;exact byc)|(refine zp1 ?_;first|rfl|omega|(rw [zw (by omega) (by omega)];omega))|(refine zb1 rfl ?_;exact byc)|exact zc2 rfl rfl|(refine zq1 (by rfl) (by rfl) ?_ ?_<;>exact byc)|(refine rw_rn' rfl rfl ?_;simp;done))))
 ·have hk':¬k<fs.length:=by simpa using h1
  rw [zy4 fun j y hj hy=>hno j y (by omega) hy]
  repeat' (first|(apply f_wo;(apply f_as;refine zq (v:=.c _) ?_))|(apply f_w;first|refine zj ?_|refine zb ?_)|refine za fun C=>?_|refine zd ?_|refine zu ?_)
  refine zh ?_;refine ret0 rfl zg1 ⟨?_,rfl⟩;rfl
set_option maxHeartbeats 2000000 in
theorem zo16 {e:E}(he:e.Ty Tryz.prog 31)(hsz:e.sz≤1048576):Ctr Tryz.prog 11 [.ag (acE e)] [] (.c (.v (.bool (progE e)))) []:=by
 obtain⟨rA,rc,rs,fA,fc,fs,rfl,⟨hr,kr⟩,⟨hf,kf⟩,-⟩:=zh3 he
 simp only [E.sz,E.szL] at hsz
 show Ctr _ _ _ _ (.c (.v (.bool (progB rs fs)))) _
 refine ze1 Tryz.func11 rfl rfl ?_
 repeat' (first|(apply f_wo;first|(apply f_as;refine zq (v:=.c _) ?_)|refine n_bo ?_)|(apply f_w;first|refine zj ?_|refine zb ?_)|refine za fun C=>?_|refine zd ?_|refine ze ?_)
 refine zv1 (fun k:Nat=>⟨tmsF [(1,.c (.pt 1 0)),(3,.c (.v (.int .i64 (k:Int))))],hpsF [(1,1,⟨31,0,0,true,[.ro rs.length 6 (acL rs),.ro fs.length 3 (acL fs)]⟩)],0,[1],66⟩)
  (fun N k=>k+N=rs.length∧∀j y,j<k→rs[j]? = some y→ruleE y=true) rs.length 0 ⟨by omega,fun j y hj=>absurd hj (Nat.not_lt_zero j)⟩ ?_ ?_
 ·(refine zl1 _ _ rfl rfl ?_ ?_<;>(repeat' (first|exact TmOk.nil|exact RwOk.nil|refine TmOk.cons ?_ ?_|refine RwOk.cons ?_ ?_|rfl|(refine rnV_id' rfl ?_;exact byc)|(refine zp1 ?_;first|rfl|omega|(rw [zw (by omega) (by omega)];omega))|(refine zb1 rfl ?_;exact byc)|exact zc2 rfl rfl|(refine zq1 (by rfl) (by rfl) ?_ ?_<;>exact byc)|(refine rw_rn' rfl rfl ?_;simp;done))))
 rintro N k ⟨hN,hno⟩
 try dsimp only
 repeat' (first|(apply f_wo;first|(apply f_mv;refine zv (v:=.c _) ?_)|(apply f_fa;refine n_fa ?_)|(apply f_ld;refine zn1 ?_)|(apply f_bi;refine zy1 ?_)|(apply zg3;refine zs1 ?_))|(apply f_w;first|refine zj ?_|refine zb ?_)|refine za fun C=>?_|refine zd ?_)
 refine zi (by rfl) (fun h1=>?_) fun h1=>?_
 ·have hk':k<rs.length:=by simpa using h1
  obtain⟨x,hx'⟩:∃x,rs[k]? = some x:=⟨_,List.getElem?_eq_getElem hk'⟩
  have hxz:=E.szL_mem (List.mem_of_getElem? hx')
  have hxt:=hr x (List.mem_of_getElem? hx')
  obtain⟨k0,p0,p1,p2,pA,pc,pl,bA,bc,bl,rfl,-,g1,g2,g3,⟨g4,g4'⟩,⟨g5,g5'⟩,-⟩:=zw2 hxt
  simp only [E.sz,E.szL] at hxz
  have cx:=l10Rule_c (k:=k0) (p:=.agg [.int .i64 p0,.int .i64 p1,.str p2,.lst 4 45 pA pc pl]) (E.Ty.mk_agg Tryz.underlying45 (E.TyF.mk_cons (zj4 g1) (E.TyF.mk_cons (zj4 g2) (E.TyF.mk_cons (by simp only [E.Ty];exact⟨Tryz.underlying9,by unfold maxLen;omega⟩) (E.TyF.mk_cons (E.Ty.mk_lst Tryz.underlying43 (by kernel_rfl) g4 g4') E.TyF.mk_nil))))) (by simp only [E.sz,E.szL];omega) g5 g5' (by omega)
  have er:ruleE (.agg [.int .i64 k0,.agg [.int .i64 p0,.int .i64 p1,.str p2,.lst 4 45 pA pc pl],.lst 6 71 bA bc bl])=ruleB k0 (.agg [.int .i64 p0,.int .i64 p1,.str p2,.lst 4 45 pA pc pl]) bl:=rfl
  rw [←er] at cx
  cases hb2:ruleE (.agg [.int .i64 k0,.agg [.int .i64 p0,.int .i64 p1,.str p2,.lst 4 45 pA pc pl],.lst 6 71 bA bc bl]) with
  | false =>
   have e0:progB rs fs=false:=by
    unfold progB
    cases ha2:rs.all ruleE with
    | false=>rw [Bool.false_and,Bool.and_false]
    | true=>rw [List.all_eq_true.1 ha2 _ (List.mem_of_getElem? hx')] at hb2;cases hb2
   rw [hb2] at cx
   rw [e0]
   repeat' (first|(apply f_wo;first|(apply f_mv;refine zv (v:=.c _) ?_)|(apply f_as;refine zq (v:=.c _) ?_)|(apply f_fa;refine n_fa ?_)|(apply f_ld;first|refine zn1 ?_|refine zq2 ?_)|(apply f_ca;refine zk1 cx ?_)|(apply f_ia;refine n_ix ?_)|(apply f_no;refine zu2 ?_))|(apply f_w;first|refine zj ?_|refine zb ?_)|refine za fun C=>?_|refine zd ?_|refine ze ?_|refine zg ?_|refine za1 rfl ?_)
   refine zh ?_;refine ret0 rfl zg1 ⟨?_,rfl⟩;rfl
  | true =>
   rw [hb2] at cx
   repeat' (first|(apply f_wo;first|(apply f_mv;refine zv (v:=.c _) ?_)|(apply f_as;refine zq (v:=.c _) ?_)|(apply f_fa;refine n_fa ?_)|(apply f_ld;first|refine zn1 ?_|refine zq2 ?_)|(apply f_ca;refine zk1 cx ?_)|(apply f_ia;refine n_ix ?_)|(apply zd2;refine zj1 ?_)|(apply f_no;refine zu2 ?_))|(apply f_w;first|refine zj ?_|refine zb ?_)|refine za fun C=>?_|refine zd ?_|refine ze ?_|refine zg ?_|refine zf1 rfl ?_)
   refine⟨N-1,k+1,by omega,⟨by omega,fun j y hj hy=>?_⟩,?_⟩
   ·by_cases e:j=k
    ·rw [e,hx'] at hy;injection hy with hy;subst hy;exact hb2
    ·exact hno j y (by omega) hy
   ·(refine zl1 _ _ rfl rfl ?_ ?_<;>(repeat' (first|exact TmOk.nil|exact RwOk.nil|refine TmOk.cons ?_ ?_|refine RwOk.cons ?_ ?_|rfl|(refine rnV_id' rfl ?_;exact byc)|(refine zp1 ?_;first|rfl|omega|(rw [zw (by omega) (by omega)];omega))|(refine zb1 rfl ?_;exact byc)|exact zc2 rfl rfl|(refine zq1 (by rfl) (by rfl) ?_ ?_<;>exact byc)|(refine rw_rn' rfl rfl ?_;simp;done))))
 have hk':¬k<rs.length:=by simpa using h1
 have eR:rs.all ruleE=true:=List.all_eq_true.2 fun y hy=>by
  obtain⟨j,hj⟩:=List.getElem?_of_mem hy
  have:=(List.getElem?_eq_some_iff.1 hj).1
  exact hno j y (by omega) hj
 rw [show progB rs fs=((decide (rs.length≤10)&&decide (fs.length≤6))&&allN fs.length (fnAtB fs)) by unfold progB;rw [eR,Bool.true_and]]
 clear hno h1 hN
 repeat' (first|(apply f_wo;(apply f_as;refine zq (v:=.c _) ?_))|(apply f_w;first|refine zj ?_|refine zb ?_)|refine za fun C=>?_|refine zd ?_|refine ze ?_|refine zu ?_)
 refine zv1 (fun k:Nat=>⟨tmsF [(1,.c (.pt 1 0)),(4,.c (.v (.int .i64 (k:Int))))],hpsF [(1,1,⟨31,0,0,true,[.ro rs.length 6 (acL rs),.ro fs.length 3 (acL fs)]⟩)],0,[1],66⟩)
  (fun N k=>k+N=fs.length∧∀j,j<k→fnAtB fs j=true) fs.length 0 ⟨by omega,fun j hj=>absurd hj (Nat.not_lt_zero j)⟩ ?_ ?_
 ·(refine zl1 _ _ rfl rfl ?_ ?_<;>(repeat' (first|exact TmOk.nil|exact RwOk.nil|refine TmOk.cons ?_ ?_|refine RwOk.cons ?_ ?_|rfl|(refine rnV_id' rfl ?_;exact byc)|(refine zp1 ?_;first|rfl|omega|(rw [zw (by omega) (by omega)];omega))|(refine zb1 rfl ?_;exact byc)|exact zc2 rfl rfl|(refine zq1 (by rfl) (by rfl) ?_ ?_<;>exact byc)|(refine rw_rn' rfl rfl ?_;simp;done))))
 rintro N i ⟨hN,hno⟩
 try dsimp only
 repeat' (first|(apply f_wo;first|(apply f_mv;refine zv (v:=.c _) ?_)|(apply f_fa;refine n_fa ?_)|(apply f_ld;refine zn1 ?_)|(apply f_bi;refine zy1 ?_)|(apply zg3;refine zs1 ?_))|(apply f_w;first|refine zj ?_|refine zb ?_)|refine za fun C=>?_|refine zd ?_)
 refine zi (by rfl) (fun h1=>?_) fun h1=>?_
 ·have hi':i<fs.length:=by simpa using h1
  obtain⟨x,hx'⟩:∃x,fs[i]? = some x:=⟨_,List.getElem?_eq_getElem hi'⟩
  have hxz:=E.szL_mem (List.mem_of_getElem? hx')
  obtain⟨n0,pA,pc,ps,bA,bc,bl,rfl,g0,⟨g1,g1'⟩,⟨g2,g2'⟩,-⟩:=zx2 (hf x (List.mem_of_getElem? hx'))
  simp only [E.sz,E.szL] at hxz
  have c1:=zm3 (s:=n0) (by omega)
  have c2:=l10Fn_c (rs:=rs) (by omega) hf kf (by omega) n0
  have c3:=zt18 g1 g1' (by omega)
  have c4:=zn16 g2 g2' (by omega)
  have ef:fnAtB fs i=((nameK n0&&(decide (ps.length≤4)&&(bodyB bl&&parB ps)))&&(idxF (isFn n0) fs==(i:Int))):=by unfold fnAtB;rw [hx'];rfl
  have ef:fnAtB fs i=((nameK n0&&(bodyB bl&&(decide (ps.length≤4)&&parB ps)))&&(idxF (isFn n0) fs==(i:Int))):=by
   rw [ef]
   cases nameK n0<;>cases bodyB bl<;>cases decide (ps.length≤4)<;>rfl
  generalize nameK n0=b1 at c1 ef
  generalize bodyB bl=b2 at c4 ef
  generalize (decide (ps.length≤4)&&parB ps)=b3 at c3 ef
  by_cases hi2:idxF (isFn n0) fs=(i:Int)
  ·rw [hi2] at c2 ef
   rw [beq_self_eq_true,Bool.and_true] at ef
   cases b1<;>cases b2<;>cases b3
   case true.true.true =>
    repeat' (first|(apply f_wo;first|(apply f_gs;refine n_sk ?_)|(apply f_mv;first|(refine zx1 ?_ ?_<;>intro hG<;>(try cases hG))|refine zv (v:=.c _) ?_)|(apply f_as;refine zq (v:=.c _) ?_)|(apply f_fa;refine n_fa ?_)|(apply f_ld;first|refine zn1 ?_|refine zq2 ?_|refine zs2 ?_)|(apply f_ca;first|refine zk1 c1 ?_|refine zk1 c2 ?_|refine zk1 c3 ?_|refine zk1 c4 ?_)|(apply f_st;refine n_st ?_)|(apply f_ia;refine n_ix ?_)|(apply zn2;refine zm1 ?_)|(apply zd2;refine zj1 ?_)|(apply f_no;refine zu2 ?_)|(apply f_pk;refine zw1 (v:=.c _) ?_)|refine n_al ?_)|(apply f_w;first|refine zj ?_|refine zb ?_)|refine za fun C=>?_|refine zd ?_|refine ze ?_|refine zg ?_|(refine zi (by rfl) ?_ ?_<;>intro hC<;>(try cases hC)))
    all_goals first
     | (exfalso;simp at hG;done)
     | (refine⟨N-1,i+1,by omega,⟨by omega,fun j hj=>?_⟩,?_⟩
        ·by_cases e:j=i
         ·subst e;exact ef
         ·exact hno j (by omega)
        ·(refine zl1 _ _ rfl rfl ?_ ?_<;>(repeat' (first|exact TmOk.nil|exact RwOk.nil|refine TmOk.cons ?_ ?_|refine RwOk.cons ?_ ?_|rfl|(refine rnV_id' rfl ?_;exact byc)|(refine zp1 ?_;first|rfl|omega|(rw [zw (by omega) (by omega)];omega))|(refine zb1 rfl ?_;exact byc)|exact zc2 rfl rfl|(refine zq1 (by rfl) (by rfl) ?_ ?_<;>exact byc)|(refine rw_rn' rfl rfl ?_;simp;done)))))
   all_goals
    rw [show allN fs.length (fnAtB fs)=false from za9 hi' ef,Bool.and_false]
    repeat' (first|(apply f_wo;first|(apply f_gs;refine n_sk ?_)|(apply f_mv;first|(refine zx1 ?_ ?_<;>intro hG<;>(try cases hG))|refine zv (v:=.c _) ?_)|(apply f_as;refine zq (v:=.c _) ?_)|(apply f_fa;refine n_fa ?_)|(apply f_ld;first|refine zn1 ?_|refine zq2 ?_|refine zs2 ?_)|(apply f_ca;first|refine zk1 c1 ?_|refine zk1 c2 ?_|refine zk1 c3 ?_|refine zk1 c4 ?_)|(apply f_st;refine n_st ?_)|(apply f_ia;refine n_ix ?_)|(apply zn2;refine zm1 ?_)|(apply f_no;refine zu2 ?_)|(apply f_pk;refine zw1 (v:=.c _) ?_)|refine n_al ?_)|(apply f_w;first|refine zj ?_|refine zb ?_)|refine za fun C=>?_|refine zd ?_|refine ze ?_|refine zg ?_|(refine zi (by rfl) ?_ ?_<;>intro hC<;>(try cases hC)))
    all_goals first
     | (refine zh ?_;refine ret0 rfl zg1 ⟨?_,rfl⟩;rfl)
     | (exfalso;simp at hG;done)
  ·rw [show (idxF (isFn n0) fs==(i:Int))=false from beq_eq_false_iff_ne.2 hi2,Bool.and_false] at ef
   rw [show allN fs.length (fnAtB fs)=false from za9 hi' ef,Bool.and_false]
   cases b1<;>cases b2<;>cases b3
   all_goals
    repeat' (first|(apply f_wo;first|(apply f_gs;refine n_sk ?_)|(apply f_mv;first|(refine zx1 ?_ ?_<;>intro hG<;>(try cases hG))|refine zv (v:=.c _) ?_)|(apply f_as;refine zq (v:=.c _) ?_)|(apply f_fa;refine n_fa ?_)|(apply f_ld;first|refine zn1 ?_|refine zq2 ?_|refine zs2 ?_)|(apply f_ca;first|refine zk1 c1 ?_|refine zk1 c2 ?_|refine zk1 c3 ?_|refine zk1 c4 ?_)|(apply f_st;refine n_st ?_)|(apply f_ia;refine n_ix ?_)|(apply zn2;refine zm1 ?_)|(apply zd2;refine zj1 ?_)|(apply f_no;refine zu2 ?_)|(apply f_pk;refine zw1 (v:=.c _) ?_)|refine n_al ?_)|(apply f_w;first|refine zj ?_|refine zb ?_)|refine za fun C=>?_|refine zd ?_|refine ze ?_|refine zg ?_|(refine zi (by rfl) ?_ ?_<;>intro hC<;>(try cases hC)))
    all_goals first
     | (refine zh ?_;refine ret0 rfl zg1 ⟨?_,rfl⟩;rfl)
     | (exfalso;simp at hG;exact hi2 hG)
 ·have hi':¬i<fs.length:=by simpa using h1
  rw [show allN fs.length (fnAtB fs)=true from zb10 fun j hj=>hno j (by omega),Bool.and_true]
  by_cases h10:rs.length≤10
  ·rw [show decide (rs.length≤10)=true from decide_eq_true h10,Bool.true_and,show decide (fs.length≤6)=decide ((fs.length:Int)≤6) from decide_eq_decide.2 (by omega)]
   repeat' (first|(apply f_wo;first|(apply f_gs;refine n_sk ?_)|(apply f_mv;(refine zx1 ?_ ?_<;>intro hG<;>(try cases hG)))|(apply f_as;refine zq (v:=.c _) ?_)|(apply f_fa;refine n_fa ?_)|(apply f_ld;refine zn1 ?_)|(apply f_bi;refine zy1 ?_)|(apply zo4;refine zl2 ?_)|(apply f_pk;refine zw1 (v:=.c _) ?_))|(apply f_w;first|refine zj ?_|refine zb ?_)|refine za fun C=>?_|refine zd ?_|refine zu ?_)
   all_goals first
    | (exfalso;simp only [decide_eq_true_iff,decide_eq_false_iff_not] at *;omega)
    | (refine zh ?_;refine ret0 rfl zg1 ⟨?_,rfl⟩;rfl)
  ·rw [show decide (rs.length≤10)=false from decide_eq_false h10,Bool.false_and]
   repeat' (first|(apply f_wo;first|(apply f_gs;refine n_sk ?_)|(apply f_mv;(refine zx1 ?_ ?_<;>intro hG<;>(try cases hG)))|(apply f_as;refine zq (v:=.c _) ?_)|(apply f_fa;refine n_fa ?_)|(apply f_ld;refine zn1 ?_)|(apply f_bi;refine zy1 ?_)|(apply zo4;refine zl2 ?_)|(apply f_pk;refine zw1 (v:=.c _) ?_))|(apply f_w;first|refine zj ?_|refine zb ?_)|refine za fun C=>?_|refine zd ?_|refine zu ?_)
   all_goals first
    | (exfalso;simp only [decide_eq_true_iff,decide_eq_false_iff_not] at *;omega)
    | (refine zh ?_;refine ret0 rfl zg1 ⟨?_,rfl⟩;rfl)
end Go.Proofs.YtnjfnhoipnbpeaaGreatDoor
