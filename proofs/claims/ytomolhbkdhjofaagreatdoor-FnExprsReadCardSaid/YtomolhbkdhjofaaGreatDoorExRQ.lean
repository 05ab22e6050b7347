/- T -/
import Derived.Test.YtomolhbkdhjofaaGreatDoorExRP
set_option maxHeartbeats 0
set_option maxRecDepth 100000
namespace Go.Proofs.YtomolhbkdhjofaaGreatDoor
open Go.RowKit Go.Proofs.Tryz
inductive Fine:E→Prop
 | mk (k:Int) (s:ByteArray) (l:List E) (hk:0≤k∧k≤11) (hs:s.size≤1073741824) (hl:∀x∈l,Fine x):Fine (du k s l)
theorem Fine.ty {e:E}(h:Fine e):e.Ty prog 112∧e.enc.length=3:=by
 induction h with
 | mk k s l hk hs hl ih =>
  refine⟨E.Ty.mk_agg underlying112 (E.TyF.mk_cons ?_ (E.TyF.mk_cons ?_ (E.TyF.mk_cons (E.Ty.mk_lst underlying110 krq (fun x hx=>(ih x hx).1) fun x hx=>(ih x hx).2) E.TyF.mk_nil))),rfl⟩
  ·simp only [E.Ty]
   refine⟨underlying3,?_⟩
   have e1:IntKind.i64.min = -9223372036854775808:=rfl
   have e2:IntKind.i64.max=9223372036854775807:=rfl
   simp only [Lit.wf,dqt,baq,e1,e2]
   omega
  ·simp only [E.Ty]
   exact⟨underlying9,by unfold maxLen;omega⟩
theorem Fine.leaf {k:Int}{s:ByteArray}(hk:0≤k∧k≤11)(hs:s.size≤1073741824):Fine (du k s []):=.mk k s [] hk hs fun _ h=>absurd h List.not_mem_nil
theorem Fine.zero:Fine dv:=Fine.leaf ⟨omq,omq⟩ (by show (0:Nat)≤_;omega)
theorem km (k:Int)(s:ByteArray)(l:List E):(du k s l).sz=s.size+(l.length+E.szL l):=by
 simp only [du,E.sz,E.szL];omega
theorem lx:dv.sz=0:=rfl
structure Good (s:ByteArray)(p:PS)(r:E×PS)(lo k m:Nat):Prop where
 fine:Fine r.1
 ge:p.a+lo≤r.2.a
 le:r.2.a≤s.size
 d:r.2.d=p.d
 sz:r.1.sz+k+2*p.a≤2*r.2.a+m
section
variable {s:ByteArray}(hs:s.size≤1048576)
theorem qT {c:Nat}:∀(f a:Nat),a≤s.size→a≤eS s c f a∧eS s c f a≤s.size
 | 0,a,h=>⟨nlr _,h⟩
 | f+1,a,h=>by
  unfold eS
  split
  ·rename_i h2
   have:=qT (c:=c) f (a+1) omq
   omega
  ·exact⟨nlr _,h⟩
include hs
theorem nE {alt:PS→E×PS}{p:PS}(hp:p.a<s.size)(ha:Good s (p.go 1) (alt (p.go 1)) 0 0 1):Good s p (kf s alt p) 1 1 0:=by
 have e0:ByteArray.empty.size=0:=rfl
 have h1:(p.go 1).a=p.a+1:=rfl
 have h2:(p.go 1).d=p.d:=rfl
 have leaf:∀(k:Int) (t:ByteArray),0≤k∧k≤11→t.size≤1→Good s p (du k t [],p.go 1) 1 1 0:=fun k t hk ht =>
  ⟨Fine.leaf hk (by show t.size≤_;omega),by show p.a+1≤p.a+1;omega,by show p.a+1≤_;omega,rfl,by
   show (du k t []).sz+1+2*p.a≤2*(p.a+1)+0
   rw [km];simp only [List.length_nil,E.szL];omega⟩
 unfold kf eY
 split
 ·exact leaf 1 _ omq (by show (1:Nat)≤1;omega)
 split
 ·exact leaf 2 _ omq omq
 split
 ·exact leaf 10 _ omq omq
 split
 ·exact leaf 11 _ omq omq
 split
 ·have hu:=qT (s:=s) (c:=93) s.size (p.go 1).a omq
  dsimp only
  split
  ·rename_i hlt
   have hc:(bz s (p.go 1).a (eS s 93 s.size (p.go 1).a)).size≤eS s 93 s.size (p.go 1).a-(p.go 1).a:=by
    unfold bz;rw [ByteArray.size_extract];omega
   refine⟨Fine.leaf omq (by show (bz _ _ _).size≤_;omega),?_,?_,rfl,?_⟩
   ·show p.a+1≤eS s 93 s.size (p.go 1).a+1;omega
   ·show eS s 93 s.size (p.go 1).a+1≤s.size;omega
   ·show (du 3 (bz s (p.go 1).a (eS s 93 s.size (p.go 1).a)) []).sz+1+2*p.a≤2*(eS s 93 s.size (p.go 1).a+1)+0
    rw [km];simp only [List.length_nil,E.szL];omega
  ·exact⟨Fine.zero,by show p.a+1≤p.a+1;omega,by show p.a+1≤_;omega,rfl,by show dv.sz+1+2*p.a≤2*(p.a+1)+0;rw [lx];omega⟩
 split
 ·split
  ·rename_i h41
   have hl:(p.go 1).a<s.size:=dG (by rw [h41];decide)
   exact⟨Fine.leaf omq (by show (0:Nat)≤_;omega),by show p.a+1≤(p.go 1).a+1;omega,by show (p.go 1).a+1≤_;omega,rfl,by
    show (du 9 ByteArray.empty []).sz+1+2*p.a≤2*((p.go 1).a+1)+0
    rw [km];simp only [List.length_nil,E.szL];omega⟩
  ·obtain⟨g1,g2,g3,g4,g5⟩:=ha
   dsimp only
   split
   ·rename_i h41
    have hl:(alt (p.go 1)).2.a<s.size:=dG (by rw [h41];decide)
    exact⟨g1,by show p.a+1≤(alt (p.go 1)).2.a+1;omega,by show (alt (p.go 1)).2.a+1≤_;omega,by show (alt (p.go 1)).2.d=p.d;omega,by
     show (alt (p.go 1)).1.sz+1+2*p.a≤2*((alt (p.go 1)).2.a+1)+0;omega⟩
   ·exact⟨Fine.zero,by show p.a+1≤(alt (p.go 1)).2.a;omega,g3,by show (alt (p.go 1)).2.d=p.d;omega,by
     show dv.sz+1+2*p.a≤2*(alt (p.go 1)).2.a+0;rw [lx];omega⟩
 ·exact⟨Fine.zero,by show p.a+1≤p.a+1;omega,by show p.a+1≤_;omega,rfl,by show dv.sz+1+2*p.a≤2*(p.a+1)+0;rw [lx];omega⟩
omit hs in
theorem ko {atom:PS→E×PS}{p:PS}(ha:Good s p (atom p) 1 1 0):Good s p (kX s atom p) 1 1 0:=by
 obtain⟨g1,g2,g3,g4,g5⟩:=ha
 have e0:ByteArray.empty.size=0:=rfl
 have star:∀k:Int,0≤k∧k≤11→(atom p).2.a<s.size→Good s p (du k ByteArray.empty [(atom p).1],(atom p).2.go 1) 1 1 0:=fun k hk hl =>
  ⟨.mk k _ _ hk omq (fun x hx=>by obtain rfl:=List.mem_singleton.1 hx;exact g1),by show p.a+1≤(atom p).2.a+1;omega,by show (atom p).2.a+1≤_;omega,g4,by
   show (du k ByteArray.empty [(atom p).1]).sz+1+2*p.a≤2*((atom p).2.a+1)+0
   rw [km];simp only [List.length_cons,List.length_nil,E.szL];omega⟩
 unfold kX
 dsimp only
 split
 ·rename_i h;exact star 6 omq (dG (by rw [h];decide))
 split
 ·rename_i h;exact star 7 omq (dG (by rw [h];decide))
 split
 ·rename_i h;exact star 8 omq (dG (by rw [h];decide))
 ·exact⟨g1,g2,g3,g4,g5⟩
omit hs in
theorem gx (x:E):∀l:List E,E.szL (l++[x])=E.szL l+x.sz
 | []=>by simp only [List.nil_append,E.szL];omega
 | y :: r=>by have:=gx x r;simp only [List.cons_append,E.szL];omega
structure GoodL (s:ByteArray)(p0:PS)(l:List E)(q:PS)(m:Nat):Prop where
 fine:∀x∈l,Fine x
 ge:p0.a≤q.a
 le:q.a≤s.size
 d:q.d=p0.d
 len:l.length+p0.a≤q.a+1
 sz:E.szL l+l.length+2*p0.a≤2*q.a+m
omit hs in
theorem zm2 {p:PS}(h:goI s p=true):p.b=false∧p.a<s.size∧bAt s p.a≠0:=by
 unfold goI at h
 simp only [baq,bnt,beq_eq_false_iff_ne] at h
 exact⟨h.1.1.1,dG h.1.1.2,h.1.1.2⟩
omit hs in
theorem jL {item:PS→E×PS}{p0:PS}(hi:∀p,p.a<s.size→p.d=p0.d→p0.a≤p.a→Good s p (item p) 1 1 0):∀(n:Nat) (l:List E) (p:PS),GoodL s p0 l p 0→GoodL s p0 (cv s item n l p).1 (cv s item n l p).2 0
 | 0,l,p,h=>h
 | n+1,l,p,h=>by
  unfold cv
  split
  ·rename_i hg
   obtain⟨hb,hlt,-⟩:=zm2 hg
   obtain⟨g1,g2,g3,g4,g5⟩:=hi p hlt h.d h.ge
   obtain⟨k1,k2,k3,k4,k5,k6⟩:=h
   refine jL hi n _ _ ⟨fun x hx=>?_,omq,g3,omq,?_,?_⟩
   ·rcases List.mem_append.1 hx with hx|hx
    ·exact k1 x hx
    ·obtain rfl:=List.mem_singleton.1 hx;exact g1
   ·rw [lla,List.length_singleton];omega
   ·rw [gx,lla,List.length_singleton];omega
  ·exact h
omit hs in
theorem kp {k:Int}(hk:0≤k∧k≤11){l:List E}(h:∀x∈l,Fine x):Fine (kW k l)∧(kW k l).sz≤E.szL l+l.length:=by
 match l,h with
 | [x],h=>exact⟨h x (List.mem_singleton.2 rfl),by show x.sz≤E.szL [x]+1;simp only [E.szL];omega⟩
 | [],h=>exact⟨.mk _ _ _ hk (by show (0:Nat)≤_;omega) h,by show (du k ByteArray.empty []).sz≤_;rw [km];have:ByteArray.empty.size=0:=rfl;omega⟩
 | x :: y :: r,h=>exact⟨.mk _ _ _ hk (by show (0:Nat)≤_;omega) h,by show (du k ByteArray.empty (x :: y :: r)).sz≤_;rw [km];have:ByteArray.empty.size=0:=rfl;omega⟩
omit hs in
theorem pA {item:PS→E×PS}{p:PS}(hp:p.a≤s.size)(hi:∀q,q.a<s.size→q.d=p.d→p.a≤q.a→Good s q (item q) 1 1 0):Good s p (uW s item p) 0 0 0:=by
 have hL:=jL (p0:=p) hi (s.size+2) [] p ⟨fun _ h=>absurd h List.not_mem_nil,nlr _,hp,rfl,by simp,by simp [E.szL]⟩
 obtain⟨k1,k2,k3,k4,k5,k6⟩:=hL
 unfold uW
 dsimp only
 split
 ·exact⟨Fine.zero,by show p.a+0≤(cv s item (s.size+2) [] p).2.a;omega,k3,k4,by show dv.sz+0+2*p.a≤2*(cv s item (s.size+2) [] p).2.a+0;rw [lx];omega⟩
 ·obtain⟨f1,f2⟩:=kp (k:=4) omq k1
  refine⟨f1,?_,k3,k4,?_⟩<;>dsimp only at *<;>omega
omit hs in
theorem zf5 {p:PS}(h:yE s p=true):p.b=false∧p.a<s.size:=by
 unfold yE at h
 simp only [baq,bnt,beq_iff_eq] at h
 exact⟨h.1,dG (by rw [h.2];decide)⟩
omit hs in
theorem jM {cat:PS→E×PS}{p0:PS}(hc:∀p,p.a≤s.size→p.d=p0.d→p0.a≤p.a→Good s p (cat p) 0 0 0):∀(n:Nat) (l:List E) (p:PS),GoodL s p0 l p 1→GoodL s p0 (de s cat n l p).1 (de s cat n l p).2 1
 | 0,l,p,h=>h
 | n+1,l,p,h=>by
  unfold de
  split
  ·rename_i hg
   obtain⟨hb,hlt⟩:=zf5 hg
   obtain⟨k1,k2,k3,k4,k5,k6⟩:=h
   have e1:(p.go 1).a=p.a+1:=rfl
   have e2:(p.go 1).d=p.d:=rfl
   obtain⟨g1,g2,g3,g4,g5⟩:=hc (p.go 1) omq omq omq
   refine jM hc n _ _ ⟨fun x hx=>?_,omq,g3,omq,?_,?_⟩
   ·rcases List.mem_append.1 hx with hx|hx
    ·exact k1 x hx
    ·obtain rfl:=List.mem_singleton.1 hx;exact g1
   ·rw [lla,List.length_singleton];omega
   ·rw [gx,lla,List.length_singleton];omega
  ·exact h
omit hs in
theorem xa {cat:PS→E×PS}{p:PS}(hp:p.a≤s.size)(hc:∀q,q.a≤s.size→q.d=p.d+1→p.a≤q.a→Good s q (cat q) 0 0 0):Good s p (zv s cat p) 0 0 1:=by
 obtain⟨q0,hq0⟩:∃q0:PS,q0=⟨p.a,p.d+1,p.b||decide (40<p.d+1)⟩:=⟨_,rfl⟩
 have e1:q0.a=p.a:=by rw [hq0]
 have e2:q0.d=p.d+1:=by rw [hq0]
 obtain⟨g1,g2,g3,g4,g5⟩:=hc q0 omq e2 omq
 have hL:=jM (p0:=q0) (fun q h1 h2 h3=>hc q h1 omq omq) (s.size+1) [(cat q0).1] (cat q0).2
  ⟨fun x hx=>by obtain rfl:=List.mem_singleton.1 hx;exact g1,omq,g3,g4,by simp only [List.length_singleton];omega,by simp only [E.szL,List.length_singleton];omega⟩
 obtain⟨k1,k2,k3,k4,k5,k6⟩:=hL
 obtain⟨f1,f2⟩:=kp (k:=5) omq k1
 unfold zv
 rw [←hq0]
 refine⟨f1,?_,k3,?_,?_⟩<;>dsimp only at *<;>omega
theorem ml (f:Nat):∀p:PS,p.a≤s.size→s.size+1≤p.a+f→Good s p (uX s f p) 0 0 1:=by
 induction f with
 | zero=>intro p h1 h2;omega
 | succ f ih =>
  intro p h1 h2
  exact xa h1 fun q hq hqd hqa=>pA hq fun r hr hrd hra=>ko (nE hs hr (ih _ (by show r.a+1≤_;omega) (by show s.size+1≤r.a+1+f;omega)))
end
theorem aU {e:E}(h:e.Ty prog 112):∃(x0:Int) (x1:ByteArray) (x2A:Option Addr) (x2c:Nat) (x2l:List E),e=(E.agg [.int .i64 x0,.str x1,.lst 3 112 x2A x2c x2l])∧((Lit.int .i64 x0).wf=true)∧(x1.size≤9223372036854775807)∧((∀y∈x2l,y.Ty prog 112)∧(∀y∈x2l,y.enc.length=3))∧True:=by
 obtain⟨fs,rfl,q0⟩:=h.agg_ underlying112
 change E.TyF _ _ [3,9,110] at q0
 obtain⟨e0,r0,rfl,h0,q1⟩:=q0.cons_
 obtain⟨e1,r1,rfl,h1,q2⟩:=q1.cons_
 obtain⟨e2,r2,rfl,h2,q3⟩:=q2.cons_
 obtain rfl:=q3.nil_
 obtain⟨x0,rfl,gx0⟩:=h0.int_ underlying3
 obtain⟨x1,rfl,gx1⟩:=h1.str_ underlying9
 obtain⟨x2A,x2c,x2l,rfl,gx2,gx2'⟩:=h2.lst_ underlying110 (k:=3) krq
 exact⟨x0,x1,x2A,x2c,x2l,rfl,gx0,gx1,⟨gx2,gx2'⟩,trivial⟩
theorem xb {l:List E}(hl:∀e∈l,e.Ty prog 112)(hk:∀e∈l,e.enc.length=3)(hlen:l.length≤1073741824){b:List AC}(hb:bu b=true)(p:E→Bool)(f:FuncId)(hc:∀x∈l,Ctr prog f (.ag (acE x) :: [.c (.pt 0 0)]) [b] (.c (.v (.bool (p x)))) [b]):Ctr prog 182 [.c (.ro l.length 3 (acL l)),.c (.fn f [.pt 0 0])] [b] (.c (.v (.int .i64 (qh p l)))) [b]:=by
 refine az func182 rfl rfl ?_
 repeat (first|refine ac ?_|refine ah ?_|refine al ?_|refine aE ?_|refine am ?_|refine aa fun C=>?_|refine av krq krq fun C=>?_|refine ab ?_|refine cV ?_|refine jr ?_|refine j5 ?_|refine kA ?_|refine x_mv ?_|refine iX ?_|refine x_sk0 ?_|refine kB ?_|refine fu ?_|refine x_sto ?_|refine fx ?_|refine x_app0 ?_|refine kC ?_)
 refine aY (fun k:Nat=>⟨ft [(0,.c (.ro l.length 3 (acL l))),(1,.c (.fn f [.pt 0 0])),(7,.c (.v (.int .i64 l.length))),(8,.c (.v (.int .i64 k)))],eW [(0,0,⟨0,0,0,true,b⟩)],1,[0],19⟩)
  (fun N k=>k+N=l.length∧∀j y,j<k→l[j]? = some y→p y=false) l.length 0 ⟨omq,omq⟩ ?_ ?_
 ·refine aL _ _ rfl rfl ?_ ?_;(repeat' (first|exact TmOk.nil|exact RwOk.nil|refine TmOk.cons ?_ ?_|refine RwOk.cons ?_ ?_|rfl|(refine rnV_id' rfl ?_;exact byc)|(refine cK ?_;first|rfl|omega|(rw [bB omq omq];omega))|(refine bg rfl ?_;exact byc)|exact dP rfl rfl|(refine rw_mid rqf rqf ?_ ?_<;>exact byc)|(refine rw_rn' rfl rfl ?_;simp;done)));refine bg rfl hb
 rintro N k ⟨hN,hno⟩
 repeat (first|refine ac ?_|refine ah ?_|refine al ?_|refine aE ?_|refine am ?_|refine aa fun C=>?_|refine av krq krq fun C=>?_|refine ab ?_|refine cV ?_|refine jr ?_|refine j5 ?_|refine kA ?_|refine x_mv ?_|refine iX ?_|refine x_sk0 ?_|refine kB ?_|refine fu ?_|refine x_sto ?_|refine fx ?_|refine x_app0 ?_|refine kC ?_)
 refine dn rqf (fun h1=>?_) fun h1=>?_
 ·have hk':k<l.length:=by simpa using h1
  obtain⟨x,hx⟩:∃x,l[k]? = some x:=⟨_,List.getElem?_eq_getElem hk'⟩
  have hxt:=hl x (mge hx)
  have hcc:=hc x (mge hx)
  obtain⟨y0,y1,y2A,y2c,y2l,rfl,gy0,gy1,gy2,-⟩:=aU hxt
  repeat (first|refine ac ?_|refine ah ?_|refine al ?_|refine aE ?_|refine am ?_|refine aa fun C=>?_|refine av krq krq fun C=>?_|refine ab ?_|refine cV ?_|refine jr ?_|refine j5 ?_|refine kA ?_|refine x_mv ?_|refine iX ?_|refine x_sk0 ?_|refine kB ?_|refine fu ?_|refine x_sto ?_|refine fx ?_|refine x_app0 ?_|refine kC ?_)
  refine x_cad 0 hcc ?_ (hl:=bF rqf hb)
  repeat (first|refine ac ?_|refine ah ?_|refine al ?_|refine aE ?_|refine am ?_|refine aa fun C=>?_|refine av krq krq fun C=>?_|refine ab ?_|refine cV ?_|refine jr ?_|refine j5 ?_|refine kA ?_|refine x_mv ?_|refine iX ?_|refine x_sk0 ?_|refine kB ?_|refine fu ?_|refine x_sto ?_|refine fx ?_|refine x_app0 ?_|refine kC ?_)
  refine dn rqf (fun h2=>?_) fun h2=>?_
  ·repeat (first|refine ac ?_|refine ah ?_|refine al ?_|refine aE ?_|refine am ?_|refine aa fun C=>?_|refine av krq krq fun C=>?_|refine ab ?_|refine cV ?_|refine jr ?_|refine j5 ?_|refine kA ?_|refine x_mv ?_|refine iX ?_|refine x_sk0 ?_|refine kB ?_|refine fu ?_|refine x_sto ?_|refine fx ?_|refine x_app0 ?_|refine kC ?_)
   refine dO (x:=.c (.v (.int .i64 k))) (rw:=⟨0,0,0,true,b⟩) rfl rfl rfl hb rfl ⟨?_,rfl⟩
   rw [qC hno hx h2]
  ·repeat (first|refine ac ?_|refine ah ?_|refine al ?_|refine aE ?_|refine am ?_|refine aa fun C=>?_|refine av krq krq fun C=>?_|refine ab ?_|refine cV ?_|refine jr ?_|refine j5 ?_|refine kA ?_|refine x_mv ?_|refine iX ?_|refine x_sk0 ?_|refine kB ?_|refine fu ?_|refine x_sto ?_|refine fx ?_|refine x_app0 ?_|refine kC ?_)
   refine⟨N-1,k+1,omq,⟨omq,fun j z hj hz=>?_⟩,?_⟩
   ·by_cases e:j=k
    ·rw [e,hx] at hz;injection hz with hz;subst hz;exact h2
    ·exact hno j z omq hz
   ·refine aL _ _ rfl rfl ?_ ?_;(repeat' (first|exact TmOk.nil|exact RwOk.nil|refine TmOk.cons ?_ ?_|refine RwOk.cons ?_ ?_|rfl|(refine rnV_id' rfl ?_;exact byc)|(refine cK ?_;first|rfl|omega|(rw [bB omq omq];omega))|(refine bg rfl ?_;exact byc)|exact dP rfl rfl|(refine rw_mid rqf rqf ?_ ?_<;>exact byc)|(refine rw_rn' rfl rfl ?_;simp;done)));refine bg rfl hb
 ·have hk':¬k<l.length:=by simpa using h1
  repeat (first|refine ac ?_|refine ah ?_|refine al ?_|refine aE ?_|refine am ?_|refine aa fun C=>?_|refine av krq krq fun C=>?_|refine ab ?_|refine cV ?_|refine jr ?_|refine j5 ?_|refine kA ?_|refine x_mv ?_|refine iX ?_|refine x_sk0 ?_|refine kB ?_|refine fu ?_|refine x_sto ?_|refine fx ?_|refine x_app0 ?_|refine kC ?_)
  refine dO (x:=.c (.v (.int .i64 (-1)))) (rw:=⟨0,0,0,true,b⟩) rfl rfl rfl hb rfl ⟨?_,rfl⟩
  rw [jA fun j y hj hy=>hno j y omq hy]
theorem xd {l:List E}(hl:∀e∈l,e.Ty prog 112)(hk:∀e∈l,e.enc.length=3)(hlen:l.length≤1073741824){b:List AC}(hb:bu b=true)(p:E→Bool)(f:FuncId)(hc:∀x∈l,Ctr prog f (.ag (acE x) :: [.c (.pt 0 0)]) [b] (.c (.v (.bool (p x)))) [b]):Ctr prog 171 [.c (.ro l.length 3 (acL l)),.c (.fn f [.pt 0 0])] [b] (.c (.v (.bool (l.any p)))) [b]:=by
 refine az func171 rfl rfl ?_
 have hcc:=xb hl hk hlen hb p f hc
 repeat (first|refine ac ?_|refine ah ?_|refine al ?_|refine aE ?_|refine am ?_|refine aa fun C=>?_|refine av krq krq fun C=>?_|refine ab ?_|refine cV ?_|refine jr ?_|refine j5 ?_|refine kA ?_|refine x_mv ?_|refine iX ?_|refine x_sk0 ?_|refine kB ?_|refine fu ?_|refine x_sto ?_|refine fx ?_|refine x_app0 ?_|refine kC ?_)
 refine x_cad 0 hcc ?_ (hl:=bF rqf hb)
 repeat (first|refine ac ?_|refine ah ?_|refine al ?_|refine aE ?_|refine am ?_|refine aa fun C=>?_|refine av krq krq fun C=>?_|refine ab ?_|refine cV ?_|refine jr ?_|refine j5 ?_|refine kA ?_|refine x_mv ?_|refine iX ?_|refine x_sk0 ?_|refine kB ?_|refine fu ?_|refine x_sto ?_|refine fx ?_|refine x_app0 ?_|refine kC ?_)
 refine dO (x:=.c (.v (.bool (decide (qh p l ≥ 0))))) (rw:=⟨0,0,0,true,b⟩) rfl rfl rfl hb rfl ⟨?_,rfl⟩
 rw [n7]
theorem zy7:∀c:Fin 256,decide (0≤Lib.indexByte [32,95,45,44,58] (UInt8.ofNat c.1))=(c.1==32||c.1==95||c.1==45||c.1==44||c.1==58):=by decide
theorem mm {c:Nat}(hc:c<256):Ctr prog 169 [.c (.v (.int .u8 (c:Int)))] [] (.c (.v (.bool (ma c)))) []:=by
 have h1:=fU ⟨#[32,95,45,44,58]⟩ hc
 have h2:=fT c
 have h3:decide (0≤Lib.indexByte (ByteArray.mk #[32,95,45,44,58]).data.toList (UInt8.ofNat c))=(c==32||c==95||c==45||c==44||c==58):=zy7 ⟨c,hc⟩
 refine az func169 rfl rfl ?_
 repeat' (first|refine ac ?_|refine aa fun C=>?_|refine ab ?_|(refine x_gm ?_ ?_<;>intro hG<;>(try cases hG))|refine cV ?_|refine iX ?_|refine m0 h1 ?_|refine m0 h2 ?_)
 all_goals
  (first|refine am ?_|skip);refine bA rfl aJ ⟨?_,rfl⟩;refine congrArg (fun s=>AV.c (AC.v (Value.bool s))) ?_
  clear h1 h2
  have h3':=congrArg (·= true) h3
  simp only [dqt,eq_iff_iff] at h3'
  clear h3
  unfold ma
  simp only [cW,ge_iff_le,Bool.or_eq_true,baq,dqt,beq_iff_eq,Bool.and_eq_false_iff,dqn] at *
  (rw [Bool.eq_iff_iff];(try simp only [baq,Bool.or_eq_true,bnt,dqt,dqn,beq_iff_eq,Bool.and_eq_false_iff,Bool.or_eq_false_iff,bne_iff_ne,ne_eq,Bool.true_eq_false,Bool.false_eq_true,true_iff,false_iff,iff_true,iff_false] at *);first|omega|(simp at *;omega))
theorem pB {s:ByteArray}(h:∀j,j<s.size→eX s j=true):ig s=(decide (1≤s.size)&&decide (s.size≤10)):=by
 unfold ig
 rw [show (List.range s.size).all (eX s)=true from List.all_eq_true.2 fun j hj=>h j (List.mem_range.1 hj),Bool.true_and]
theorem ly {s:ByteArray}{j:Nat}(h:j<s.size)(h2:eX s j=false):ig s=false:=by
 unfold ig
 rw [show (List.range s.size).all (eX s)=false from List.all_eq_false.2 ⟨j,List.mem_range.2 h,by simp [h2]⟩,Bool.false_and]
theorem zg5 {s:ByteArray}(hs:s.size≤1073741824):Ctr prog 170 [.c (.v (.string s))] [] (.c (.v (.bool (ig s)))) []:=by
 refine az func170 rfl rfl ?_
 repeat' (first|refine ac ?_|refine ah ?_|refine aa fun C=>?_|refine ab ?_|refine cV ?_)
 refine aY (fun k:Nat=>⟨ft [(0,.c (.v (.string s))),(3,.c (.v (.int .i64 k)))],eW [],0,[],32⟩) (fun N k=>k+N=s.size∧∀j,j<k→eX s j=true) s.size 0 ⟨omq,fun j hj=>by omega⟩ ?_ ?_
 ·(refine aL _ _ rfl rfl ?_ ?_<;>exact tdy0)
 rintro N k ⟨hN,hall⟩
 repeat' (first|refine ac ?_|refine aa fun C=>?_|refine ab ?_|refine cV ?_)
 refine dn rqf (fun h1=>?_) fun h1=>?_
 ·have hk:k<s.size:=by simpa using h1
  have hl:=mm (cZ s k)
  have fin:∀b,eX s k=b→True:=fun _ _=>trivial
  cases k with
  | zero =>
   repeat' (first|refine ac ?_|refine ah ?_|refine al ?_|refine aa fun C=>?_|refine av krq krq fun C=>?_|refine ab ?_|(refine x_gm ?_ ?_<;>intro hG<;>(try cases hG))|refine x_six ?_|refine ph ?_|refine cV ?_|refine iX ?_|refine m0 hl ?_|(refine dn rqf ?_ ?_<;>intro hC<;>(try cases hC)))
   all_goals first
    | (exfalso;revert hG;simp;done)
    | (refine am ?_
       refine bA (x:=.c (.v (.bool false))) rfl aJ ⟨?_,rfl⟩
       rw [ly hk (by unfold eX;simp_all)])
    | (refine⟨N-1,1,omq,⟨omq,fun j hj=>?_⟩,?_⟩
       ·obtain rfl:j=0:=by omega
        unfold eX;simp_all
       ·(refine aL _ _ rfl rfl ?_ ?_<;>(repeat' (first|exact TmOk.nil|exact RwOk.nil|refine TmOk.cons ?_ ?_|refine RwOk.cons ?_ ?_|rfl|(refine rnV_id' rfl ?_;exact byc)|(refine cK ?_;first|rfl|omega|(rw [bB omq omq];omega))|(refine bg rfl ?_;exact byc)|exact dP rfl rfl|(refine rw_mid rqf rqf ?_ ?_<;>exact byc)|(refine rw_rn' rfl rfl ?_;simp;done)))))
  | succ m =>
   have hm:((m+1:Nat):Int)-1=(m:Int):=by omega
   repeat' (first|refine ac ?_|refine ah ?_|refine al ?_|refine aa fun C=>?_|refine av krq krq fun C=>?_|refine ab ?_|(refine x_gm ?_ ?_<;>intro hG<;>(try cases hG))|refine x_six ?_|refine ph ?_|refine cV ?_|refine iX ?_|refine m0 hl ?_|(refine dn rqf ?_ ?_<;>intro hC<;>(try cases hC)))
   all_goals first
    | (refine am ?_
       refine bA (x:=.c (.v (.bool false))) rfl aJ ⟨?_,rfl⟩
       rw [ly hk (by unfold eX;simp_all;try omega)])
    | (refine⟨N-1,m+2,omq,⟨omq,fun j hj=>?_⟩,?_⟩
       ·rcases Nat.lt_or_ge j (m+1) with h|h
        ·exact hall j h
        ·obtain rfl:j=m+1:=by omega
         unfold eX;simp_all;try omega
       ·(refine aL _ _ rfl rfl ?_ ?_<;>(repeat' (first|exact TmOk.nil|exact RwOk.nil|refine TmOk.cons ?_ ?_|refine RwOk.cons ?_ ?_|rfl|(refine rnV_id' rfl ?_;exact byc)|(refine cK ?_;first|rfl|omega|(rw [bB omq omq];omega))|(refine bg rfl ?_;exact byc)|exact dP rfl rfl|(refine rw_mid rqf rqf ?_ ?_<;>exact byc)|(refine rw_rn' rfl rfl ?_;simp;done)))))
    | skip
 ·repeat' (first|refine ac ?_|refine aE ?_|refine aa fun C=>?_|refine ab ?_|refine cV ?_|refine m0 (iN _ _ _) ?_)
  refine am ?_
  refine bA rfl aJ ⟨?_,rfl⟩
  rw [pB fun j hj=>hall j (by simp at h1;omega)]
  refine congrArg (fun s=>AV.c (AC.v (Value.bool s))) ?_
  unfold inR
  (rw [Bool.eq_iff_iff];(try simp only [baq,Bool.or_eq_true,bnt,dqt,dqn,beq_iff_eq,Bool.and_eq_false_iff,Bool.or_eq_false_iff,bne_iff_ne,ne_eq,Bool.true_eq_false,Bool.false_eq_true,true_iff,false_iff,iff_true,iff_false] at *);first|omega|(simp at *;omega))
theorem zJ {x:E}(hx:x.Ty prog 112):Ctr prog 173 [.ag (acE x)] [] (.c (.v (.bool (gR x.rk)))) []:=by
 obtain⟨y0,y1,y2A,y2c,y2l,rfl,gy0,gy1,gy2,-⟩:=aU hx
 refine az func173 rfl rfl ?_
 repeat' (first|(apply ay;first|refine bH ?_|(refine aK ?_ ?_<;>intro hG<;>(try cases hG))|refine ai ?_|refine bf ?_|refine aI ?_|refine ao ?_|refine aB ?_|refine cE ?_)|refine aj ?_|refine ab ?_|refine aa fun C=>?_|refine ac ?_)
 all_goals
  (first|refine am ?_|skip);refine bA rfl aJ ⟨?_,rfl⟩;refine congrArg (fun s=>AV.c (AC.v (Value.bool s))) ?_
  simp only [E.rk]
  unfold gR
  (rw [Bool.eq_iff_iff];(try simp only [baq,Bool.or_eq_true,bnt,dqt,dqn,beq_iff_eq,Bool.and_eq_false_iff,Bool.or_eq_false_iff,bne_iff_ne,ne_eq,Bool.true_eq_false,Bool.false_eq_true,true_iff,false_iff,iff_true,iff_false] at *);first|omega|(simp at *;omega))
theorem zK {x:E}(hx:x.Ty prog 112)(k:Int){c1 c2:AC}(h1:clo c1=true)(h2:clo c2=true):Ctr prog 172 [.ag (acE x),.c (.pt 0 0)] [[.v (.int .i64 k),c1,c2]] (.c (.v (.bool (x.rk==k)))) [[.v (.int .i64 k),c1,c2]]:=by
 obtain⟨y0,y1,y2A,y2c,y2l,rfl,gy0,gy1,gy2,-⟩:=aU hx
 refine az func172 rfl rfl ?_
 repeat' (first|(apply ay;first|refine ai ?_|refine bf ?_|refine aI ?_|refine ao ?_|refine cE ?_)|refine aj ?_|refine ab ?_|refine aa fun C=>?_|refine ac ?_)
 refine am ?_
 exact dO (x:=.c (.v (.bool (y0==k)))) (rw:=⟨0,0,0,true,[.v (.int .i64 k),c1,c2]⟩) rfl rfl rfl (by simp [bu,clo,h1,h2]) rfl ⟨rfl,rfl⟩
theorem ou {s:ByteArray}:(s.toList==(ByteArray.mk #[]).toList)=(s.size==0):=by
 rw [Bool.eq_iff_iff]
 simp only [beq_iff_eq]
 exact⟨fun h=>by have:=toList_inj h;rw [this];rfl,fun h=>by rw [jJ h];rfl⟩
theorem ib0 {n:Nat}:((n:Int)==0)=(n==0):=by rw [Bool.eq_iff_iff];simp only [beq_iff_eq];omega
theorem ib1 {n:Nat}:((n:Int)==1)=(n==1):=by rw [Bool.eq_iff_iff];simp only [beq_iff_eq];omega
theorem zL {n:Nat}:inR (n:Int) 2 8=(decide (2≤n)&&decide (n≤8)):=by
 unfold inR
 rw [Bool.eq_iff_iff];simp only [baq,dqt];omega
theorem ov {x0:Int}{x1:ByteArray}{A:Option Addr}{c:Nat}{l:List E}:m6 (E.agg [.int .i64 x0,.str x1,.lst 3 112 A c l])=(fW x0 x1 l&&!((x0==4||x0==5)&&l.any fun x=>x.rk==x0)):=rfl
theorem sM {l:List E}{y:E}(h1:l.length=1)(h2:l[0]? = some y):l=[y]:=by
 match l,h1,h2 with
 | [z],_,h2=>simpa using h2
theorem sN {x0:Int}{x1:ByteArray}{l:List E}(h:∀k:Int,1≤k→k≤11→x0≠k):fW x0 x1 l=false:=by
 unfold fW
 have h1:=h 1 omq omq;have h2:=h 2 omq omq;have h3:=h 3 omq omq;have h4:=h 4 omq omq;have h5:=h 5 omq omq;have h6:=h 6 omq omq
 have h7:=h 7 omq omq;have h8:=h 8 omq omq;have h9:=h 9 omq omq;have h10:=h 10 omq omq;have h11:=h 11 omq omq
 simp [h1,h2,h3,h4,h5,h6,h7,h8,h9,h10,h11]
theorem ut {f:Nat}(ih:∀(e:E) (deep:Nat),e.Ty prog 112→e.sz≤4194304→deep+f=7→Ctr prog 154 [.ag (acE e),.c (.v (.int .i64 (deep:Int)))] [] (.c (.v (.int .i64 ((bR f e:Nat):Int)))) [])(e:E)(deep:Nat)(he:e.Ty prog 112)(hsz:e.sz≤4194304)(hd:deep+(f+1)=7):Ctr prog 154 [.ag (acE e),.c (.v (.int .i64 (deep:Int)))] [] (.c (.v (.int .i64 ((bR (f+1) e:Nat):Int)))) []:=by
 obtain⟨x0,x1,x2A,x2c,l,rfl,gx0,gx1,gx2,-⟩:=aU he
 simp only [E.sz,E.szL] at hsz
 have hl:l.length≤4194304:=by omega
 refine az func154 rfl rfl ?_
 repeat' (first|(apply ay;first|refine ai ?_|refine cE ?_)|refine aj ?_|refine ab ?_|refine aa fun C=>?_|refine iM ?_)
 refine ac ?_
 repeat' (first|(apply ay;first|refine ak ?_|refine aX ?_)|refine aj ?_|refine ab ?_|refine aa fun C=>?_|refine iM ?_)
 refine dn rqf (fun h=>by simp at h;omega) fun h=>?_
 refine al ?_
 repeat' (first|(apply ay;refine ai ?_)|refine aj ?_|refine ab ?_|refine aa fun C=>?_|refine iM ?_)
 refine sb ⟨ft [(1,.c (.v (.int .i64 (deep:Int)))),(2,.c (.pt 2 0)),(5,.c (.v (.bool (m6 (E.agg [.int .i64 x0,.str x1,.lst 3 112 x2A x2c l])))))],eW [(2,2,⟨112,0,0,true,[.v (.int .i64 x0),.v (.string x1),.ro l.length 3 (acL l)]⟩)],0,[2],115⟩ ?_ ?_
 ·have c1:=zg5 (s:=x1) omq
  have c2:=mm (cZ x1 0)
  have c3:=xd gx2.1 gx2.2 omq (b:=[.v (.int .i64 x0),.v (.string x1),.ro l.length 3 (acL l)]) (by simp [bu,clo,aM]) (fun x=>x.rk==x0) 172 (fun x hx=>zK (gx2.1 x hx) x0 rfl (by simp [clo,aM]))
  rw [ov]
  clear ih he
  by_cases hin:x0=1∨x0=2∨x0=3∨x0=4∨x0=5∨x0=9∨x0=10∨x0=11
  ·rcases hin with rfl|rfl|rfl|rfl|rfl|rfl|rfl|rfl
   all_goals
    repeat' (first|(apply ay;first|refine bH ?_|(refine aK ?_ ?_<;>intro hG<;>(try cases hG))|refine ai ?_|refine bf ?_|refine aI ?_|refine aH c1 ?_|refine aH c2 ?_|refine aH ((iN _ _ _)) ?_|refine aF 2 (c3) ?_|refine bC ?_|refine a7 ?_|refine ao ?_|refine aC ?_|refine bI ?_|refine aB ?_|refine bV ?_|refine au ?_)|refine aj ?_|refine ab ?_|refine aa fun C=>?_|refine ac ?_|refine ah ?_|refine al ?_|(refine ae rqf ?_ ?_<;>intro hC<;>(try cases hC)))
   all_goals
    (show Gh _ _
     refine aL _ _ rfl rfl (TmOk.cons rfl (TmOk.cons rfl (TmOk.cons (nY rfl (Lib.hid ?_)) TmOk.nil))) (RwOk.cons (bg rfl ?_) RwOk.nil)
     ·unfold fW
      clear c1 c2 c3 gx0 gx1 gx2 hsz hl hd h
      (try simp only [ou,ib0,ib1,zL] at *)
      first
       | (simp_all;done)
       | (simp_all;intros;omega)
     ·simp [bu,clo,aM])
  ·by_cases hlp:x0=6∨x0=7∨x0=8
   ·by_cases hl1:l.length=1
    ·obtain⟨y,hy⟩:∃y,l[0]? = some y:=⟨_,List.getElem?_eq_getElem omq⟩
     have hgk:=gx2.2
     have hyt:=gx2.1 y (mge hy)
     have c4:=zJ hyt
     have hl2:=sM hl1 hy
     obtain⟨y0,y1,y2A,y2c,y2l,rfl,gy0,gy1,gy2,-⟩:=aU hyt
     have hh:fW x0 x1 l=(x1.size==0&&!(gR y0)):=by
      rw [hl2]
      unfold fW
      rcases hlp with rfl|rfl|rfl<;>simp [E.rk]
     have hh2:(fW x0 x1 l&&!((x0==4||x0==5)&&l.any fun x=>x.rk==x0))=(x1.size==0&&!(gR y0)):=by
      rw [hh]
      rcases hlp with rfl|rfl|rfl<;>simp
     rw [hh2]
     clear hh hh2 c1 c2 c3
     rcases hlp with rfl|rfl|rfl
     all_goals
      repeat' (first|(apply ay;first|refine bH ?_|(refine aK ?_ ?_<;>intro hG<;>(try cases hG))|refine ai ?_|refine bf ?_|refine aI ?_|refine cX ?_|refine aH c4 ?_|refine bC ?_|refine gJ ?_|refine ao ?_|refine aC ?_|refine bI ?_|refine aB ?_)|refine aj ?_|refine ab ?_|refine aa fun C=>?_|refine ac ?_|refine ah ?_|refine al ?_|(refine ae rqf ?_ ?_<;>intro hC<;>(try cases hC)))
     all_goals first
      | (exfalso;simp [hl1] at hG;done)
      | (show Gh _ _
         refine aL _ _ rfl rfl (TmOk.cons rfl (TmOk.cons rfl (TmOk.cons (nY rfl (Lib.hid ?_)) TmOk.nil))) (RwOk.cons (bg rfl ?_) RwOk.nil)
         ·clear c4 gx0 gx1 gx2 gy0 gy1 gy2 hsz hl hd h hgk hyt
          (try simp only [E.rk,ou,ib0,ib1,zL] at *)
          first
           | (simp_all;done)
           | (simp_all;intros;omega)
         ·simp [bu,clo,aM])
    ·have hh:(fW x0 x1 l&&!((x0==4||x0==5)&&l.any fun x=>x.rk==x0))=false:=by
      unfold fW
      rcases hlp with rfl|rfl|rfl<;>simp [hl1]
     have hl1':((l.length:Int)==1)=false:=by rw [ib1];simpa using hl1
     rw [hh]
     clear hh c1 c2 c3
     rcases hlp with rfl|rfl|rfl
     all_goals
      repeat' (first|(apply ay;first|refine bH ?_|(refine aK ?_ ?_<;>intro hG<;>(try cases hG))|refine ai ?_|refine bf ?_|refine aI ?_|refine bC ?_|refine ao ?_|refine aC ?_|refine aB ?_)|refine aj ?_|refine ab ?_|refine aa fun C=>?_|refine ac ?_|refine ah ?_|refine al ?_|(refine ae rqf ?_ ?_<;>intro hC<;>(try cases hC)))
     all_goals first
      | (exfalso;rw [hl1'] at hG;cases hG;done)
      | (show Gh _ _
         refine aL _ _ rfl rfl (TmOk.cons rfl (TmOk.cons rfl (TmOk.cons (nY rfl (Lib.hid ?_)) TmOk.nil))) (RwOk.cons (bg rfl ?_) RwOk.nil)
         ·first
           | rfl
           | simp_all
         ·simp [bu,clo,aM])
   ·have hk:∀k:Int,1≤k→k≤11→x0≠k:=fun k g1 g2 g3=>by omega
    rw [sN hk,Bool.false_and]
    clear c1 c2 c3
    repeat' (first|(apply ay;first|refine ai ?_|refine bf ?_|refine aI ?_|refine ao ?_)|refine aj ?_|refine ab ?_|refine aa fun C=>?_|refine ac ?_|refine ah ?_)
    iterate 15
     (first
       | refine ar rfl ?_
       | refine ae rqf (fun hC=>absurd (eq_of_beq hC) (hk _ omq omq)) fun hC=>?_
       | skip)<;>repeat' (first|(apply ay;first|refine ai ?_|refine ao ?_)|refine aj ?_|refine ab ?_|refine aa fun C=>?_|refine ac ?_|refine al ?_)
    (show Gh _ _
     refine aL _ _ rfl rfl (TmOk.cons rfl (TmOk.cons rfl (TmOk.cons (nY rfl (Lib.hid ?_)) TmOk.nil))) (RwOk.cons (bg rfl ?_) RwOk.nil)
     ·rfl
     ·simp [bu,clo,aM])
 ·cases hh:m6 (E.agg [.int .i64 x0,.str x1,.lst 3 112 x2A x2c l]) with
  | false =>
   repeat' (first|(apply ay;first|refine ak ?_|refine ai ?_|refine bI ?_)|refine aj ?_|refine ab ?_|refine aa fun C=>?_|refine ac ?_|refine aq rfl ?_)
   refine am ?_
   refine bA (x:=.c (.v (.int .i64 61))) rfl aJ ⟨?_,rfl⟩
   unfold bR;rw [hh];rfl
  | true =>
   have hres:bR (f+1) (E.agg [.int .i64 x0,.str x1,.lst 3 112 x2A x2c l])=kG (bR f) l 1:=by unfold bR;rw [hh];rfl
   rw [hres]
   clear hres
   generalize hT:kG (bR f) l 1=tot
   repeat' (first|(apply ay;first|refine ak ?_|refine ai ?_|refine bf ?_|refine aI ?_|refine bC ?_|refine bI ?_)|refine aj ?_|refine ab ?_|refine aa fun C=>?_|refine ac ?_|refine ah ?_|refine al ?_|refine ar rfl ?_)
   refine aY (fun d:Nat×Nat=>⟨ft [(1,.c (.v (.int .i64 (deep:Int)))),(6,.c (.v (.int .i64 (d.2:Int)))),(99,.c (.ro l.length 3 (acL l))),(100,.c (.v (.int .i64 l.length))),(101,.c (.v (.int .i64 (d.1:Int))))],eW [],0,[],115⟩) (fun N d=>d.1+N=l.length∧d.2≤60∧kG (bR f) (l.drop d.1) d.2=tot) l.length (0,1) ⟨by simp,by simp,hT⟩ ?_ ?_
   ·(refine aL _ _ rfl rfl ?_ ?_<;>exact tdy0)
   rintro N ⟨k,n⟩ ⟨hN,hn,hs⟩
   dsimp only at hN hn hs ⊢
   repeat' (first|(apply ay;refine aA ?_)|refine aj ?_|refine ab ?_|refine aa fun C=>?_|refine ac ?_)
   refine ae rqf (fun h1=>?_) fun h1=>?_
   ·have hk:k<l.length:=by simpa using h1
    obtain⟨x,hx⟩:∃x,l[k]? = some x:=⟨_,List.getElem?_eq_getElem hk⟩
    have hxt:=gx2.1 x (mge hx)
    have hxs:=E.szL_mem (mge hx)
    have hc:=ih x (deep+1) hxt omq omq
    have hb:=wN f x
    have hd1:l.drop k=x :: l.drop (k+1):=by rw [List.drop_eq_getElem_cons hk];congr 1;rw [List.getElem?_eq_getElem hk] at hx;exact Option.some.inj hx
    rw [hd1] at hs
    unfold kG at hs
    have hgk:=gx2.2
    obtain⟨y0,y1,y2A,y2c,y2l,rfl,gy0,gy1,gy2,-⟩:=aU hxt
    repeat' (first|(apply ay;first|refine ak ?_|refine ai ?_|refine cX ?_|refine bM ?_|refine aH hc ?_|refine bh ?_|refine gJ ?_|refine bX ?_|refine aw ?_|refine bJ ?_)|refine aj ?_|refine ab ?_|refine aa fun C=>?_|refine ac ?_|refine ah ?_|refine al ?_)
    refine ae rqf (fun h2=>?_) fun h2=>?_
    ·have h3:61≤n+bR f (E.agg [.int .i64 y0,.str y1,.lst 3 112 y2A y2c y2l]):=by simp at h2;omega
     repeat' (first|(apply ay;refine ai ?_)|refine aj ?_|refine ab ?_|refine aa fun C=>?_|refine ac ?_)
     refine am ?_
     refine bA (x:=.c (.v (.int .i64 61))) rfl aJ ⟨?_,rfl⟩
     rw [if_pos h3] at hs
     rw [←hs];rfl
    ·have h3:¬61≤n+bR f (E.agg [.int .i64 y0,.str y1,.lst 3 112 y2A y2c y2l]):=by simp at h2;omega
     rw [if_neg h3] at hs
     repeat' (first|(apply ay;first|refine ak ?_|refine aw ?_)|refine aj ?_|refine ab ?_|refine aa fun C=>?_|refine al ?_)
     refine⟨N-1,(k+1,n+bR f (E.agg [.int .i64 y0,.str y1,.lst 3 112 y2A y2c y2l])),omq,⟨by dsimp only;omega,by dsimp only;omega,hs⟩,?_⟩
     (refine aL _ _ rfl rfl ?_ ?_<;>exact tdy0)
   ·have hk:k=l.length:=by simp at h1;omega
    repeat' (first|(apply ay;first|refine ak ?_|refine ai ?_)|refine aj ?_|refine ab ?_|refine aa fun C=>?_|refine ac ?_|refine aE ?_)
    refine am ?_
    refine bA (x:=.c (.v (.int .i64 (n:Int)))) rfl aJ ⟨?_,rfl⟩
    rw [hk,List.drop_length] at hs
    rw [←hs];rfl
theorem uv (f:Nat):∀(e:E) (deep:Nat),e.Ty prog 112→e.sz≤4194304→deep+f=7→Ctr prog 154 [.ag (acE e),.c (.v (.int .i64 (deep:Int)))] [] (.c (.v (.int .i64 ((bR f e:Nat):Int)))) []:=by
 induction f with
 | zero =>
  intro e deep he hsz hd
  obtain⟨x0,x1,x2A,x2c,l,rfl,gx0,gx1,gx2,-⟩:=aU he
  refine az func154 rfl rfl ?_
  obtain rfl:deep=7:=by omega
  repeat' (first|(apply ay;first|refine ak ?_|refine ai ?_|refine aX ?_|refine cE ?_)|refine aj ?_|refine ab ?_|refine aa fun C=>?_|refine ac ?_|refine aq rfl ?_)
  refine am ?_
  exact bA (x:=.c (.v (.int .i64 61))) rfl aJ ⟨rfl,rfl⟩
 | succ f ih=>exact ut ih
def intE:E→Int
 | .int _ z=>z
 | _=>0
theorem zM {l:List E}(hl:∀e∈l,e.Ty prog 3)(hk:∀e∈l,e.enc.length=1)(hlen:l.length≤1073741824)(v:Int):Ctr prog 183 [.c (.ro l.length 1 (acL l)),.c (.v (.int .i64 v))] [] (.c (.v (.int .i64 (qh (fun e=>v==intE e) l)))) []:=by
 refine az func183 rfl rfl ?_
 repeat (first|refine ac ?_|refine ah ?_|refine al ?_|refine aE ?_|refine am ?_|refine aa fun C=>?_|refine av krq krq fun C=>?_|refine ab ?_|refine cV ?_|refine jr ?_|refine j5 ?_|refine kA ?_|refine x_mv ?_|refine iX ?_|refine x_sk0 ?_|refine kB ?_|refine fu ?_|refine x_sto ?_|refine fx ?_|refine x_app0 ?_|refine kC ?_)
 refine aY (fun k:Nat=>⟨ft [(0,.c (.ro l.length 1 (acL l))),(1,.c (.v (.int .i64 v))),(7,.c (.v (.int .i64 l.length))),(8,.c (.v (.int .i64 k)))],eW [],0,[],19⟩)
  (fun N k=>k+N=l.length∧∀j y,j<k→l[j]? = some y→(fun e=>v==intE e) y=false) l.length 0 ⟨omq,omq⟩ ?_ ?_
 ·(refine aL _ _ rfl rfl ?_ ?_<;>exact tdy0)
 rintro N k ⟨hN,hno⟩
 repeat (first|refine ac ?_|refine ah ?_|refine al ?_|refine aE ?_|refine am ?_|refine aa fun C=>?_|refine av krq krq fun C=>?_|refine ab ?_|refine cV ?_|refine jr ?_|refine j5 ?_|refine kA ?_|refine x_mv ?_|refine iX ?_|refine x_sk0 ?_|refine kB ?_|refine fu ?_|refine x_sto ?_|refine fx ?_|refine x_app0 ?_|refine kC ?_)
 refine dn rqf (fun h1=>?_) fun h1=>?_
 ·have hk':k<l.length:=by simpa using h1
  obtain⟨x,hx⟩:∃x,l[k]? = some x:=⟨_,List.getElem?_eq_getElem hk'⟩
  have hxt:=hl x (mge hx)
  obtain⟨y0,rfl,-⟩:=hxt.int_ underlying3
  repeat (first|refine ac ?_|refine ah ?_|refine al ?_|refine aE ?_|refine am ?_|refine aa fun C=>?_|refine av krq krq fun C=>?_|refine ab ?_|refine cV ?_|refine jr ?_|refine j5 ?_|refine kA ?_|refine x_mv ?_|refine iX ?_|refine x_sk0 ?_|refine kB ?_|refine fu ?_|refine x_sto ?_|refine fx ?_|refine x_app0 ?_|refine kC ?_)
  refine dn rqf (fun h2=>?_) fun h2=>?_
  ·repeat (first|refine ac ?_|refine ah ?_|refine al ?_|refine aE ?_|refine am ?_|refine aa fun C=>?_|refine av krq krq fun C=>?_|refine ab ?_|refine cV ?_|refine jr ?_|refine j5 ?_|refine kA ?_|refine x_mv ?_|refine iX ?_|refine x_sk0 ?_|refine kB ?_|refine fu ?_|refine x_sto ?_|refine fx ?_|refine x_app0 ?_|refine kC ?_)
   refine bA (x:=.c (.v (.int .i64 k))) rfl aJ ⟨?_,rfl⟩
   rw [qC hno hx (by simpa [intE,lu] using h2)]
  ·repeat (first|refine ac ?_|refine ah ?_|refine al ?_|refine aE ?_|refine am ?_|refine aa fun C=>?_|refine av krq krq fun C=>?_|refine ab ?_|refine cV ?_|refine jr ?_|refine j5 ?_|refine kA ?_|refine x_mv ?_|refine iX ?_|refine x_sk0 ?_|refine kB ?_|refine fu ?_|refine x_sto ?_|refine fx ?_|refine x_app0 ?_|refine kC ?_)
   refine⟨N-1,k+1,omq,⟨omq,fun j z hj hz=>?_⟩,?_⟩
   ·by_cases e:j=k
    ·rw [e,hx] at hz;injection hz with hz;subst hz;simpa [intE,lu] using h2
    ·exact hno j z omq hz
   ·(refine aL _ _ rfl rfl ?_ ?_<;>exact tdy0)
 ·have hk':¬k<l.length:=by simpa using h1
  repeat (first|refine ac ?_|refine ah ?_|refine al ?_|refine aE ?_|refine am ?_|refine aa fun C=>?_|refine av krq krq fun C=>?_|refine ab ?_|refine cV ?_|refine jr ?_|refine j5 ?_|refine kA ?_|refine x_mv ?_|refine iX ?_|refine x_sk0 ?_|refine kB ?_|refine fu ?_|refine x_sto ?_|refine fx ?_|refine x_app0 ?_|refine kC ?_)
  refine bA (x:=.c (.v (.int .i64 (-1)))) rfl aJ ⟨?_,rfl⟩
  rw [jA fun j y hj hy=>hno j y omq hy]
theorem zN {l:List E}(hl:∀e∈l,e.Ty prog 3)(hk:∀e∈l,e.enc.length=1)(hlen:l.length≤1073741824)(v:Int):Ctr prog 174 [.c (.ro l.length 1 (acL l)),.c (.v (.int .i64 v))] [] (.c (.v (.bool (l.any (fun e=>v==intE e))))) []:=by
 refine az func174 rfl rfl ?_
 have hcc:=zM hl hk hlen v
 repeat (first|refine ac ?_|refine ah ?_|refine al ?_|refine aE ?_|refine am ?_|refine aa fun C=>?_|refine av krq krq fun C=>?_|refine ab ?_|refine cV ?_|refine jr ?_|refine j5 ?_|refine kA ?_|refine x_mv ?_|refine iX ?_|refine x_sk0 ?_|refine kB ?_|refine fu ?_|refine x_sto ?_|refine fx ?_|refine x_app0 ?_|refine kC ?_)
 refine m0 hcc ?_
 repeat (first|refine ac ?_|refine ah ?_|refine al ?_|refine aE ?_|refine am ?_|refine aa fun C=>?_|refine av krq krq fun C=>?_|refine ab ?_|refine cV ?_|refine jr ?_|refine j5 ?_|refine kA ?_|refine x_mv ?_|refine iX ?_|refine x_sk0 ?_|refine kB ?_|refine fu ?_|refine x_sto ?_|refine fx ?_|refine x_app0 ?_|refine kC ?_)
 refine bA (x:=.c (.v (.bool (decide (qh (fun e=>v==intE e) l ≥ 0))))) rfl aJ ⟨?_,rfl⟩
 rw [n7]
theorem mn {e:E}(he:e.Ty prog 112)(hsz:e.sz≤4194304):Ctr prog 137 [.ag (acE e)] [] (.c (.v (.bool (eO e)))) []:=by
 have hc:=uv 6 e 1 he hsz rfl
 obtain⟨x0,x1,x2A,x2c,l,rfl,gx0,gx1,gx2,-⟩:=aU he
 refine az func137 rfl rfl ?_
 repeat' (first|(apply ay;first|refine ai ?_|refine bM ?_|refine aH hc ?_|refine bp ?_|refine cE ?_)|refine aj ?_|refine ab ?_|refine aa fun C=>?_|refine ac ?_)
 (first|refine am ?_|skip);refine bA rfl aJ ⟨?_,rfl⟩;refine congrArg (fun s=>AV.c (AC.v (Value.bool s))) ?_
 unfold eO
 (rw [Bool.eq_iff_iff];(try simp only [baq,Bool.or_eq_true,bnt,dqt,dqn,beq_iff_eq,Bool.and_eq_false_iff,Bool.or_eq_false_iff,bne_iff_ne,ne_eq,Bool.true_eq_false,Bool.false_eq_true,true_iff,false_iff,iff_true,iff_false] at *);first|omega|(simp at *;omega))
def ik (ks:List Int)(k:Int)(t:ByteArray):ByteArray:=if ks.any (fun x=>k==x) then ⟨#[40]⟩++t++⟨#[41]⟩ else t
end Go.Proofs.YtomolhbkdhjofaaGreatDoor
