/- T -/
import Derived.Test.YtmnneflenebgmaaGreatCnOH
set_option maxHeartbeats 0
set_option maxRecDepth 100000
namespace Go.Proofs.YtmnneflenebgmaaGreat
open Go.RowKit Go.Proofs.Tryz
section
variable {P:Program}{S T:TypeId}{f off n:Nat}
def fldB (P:Program)(S:TypeId)(f off:Nat):Bool:=match rz P S f with|some fl=>(P.info? fl.type).isSome&&!(Nat.beq (P.cellsOf fl.type) 0)&&Nat.beq fl.offset off|none=>false
class FldI (P:Program) (S:TypeId) (f:Nat) (off:outParam Nat):Prop where
 h:fldB P S f off=true
def uj (P:Program)(T:TypeId):Bool:=match P.underlying T,P.info? T with|some d,some i=>Nat.beq i.size 1&&!(aggD d)&&Nat.beq (P.cellsOf T) 1|_,_=>false
class OneI (P:Program) (T:TypeId):Prop where
 h:uj P T=true
def uk (P:Program)(T:TypeId)(n:Nat):Bool:=match P.underlying T,P.info? T with|some d,some i=>Nat.beq i.size n&&aggD d&&Nat.beq (P.cellsOf T) n|_,_=>false
class AggI (P:Program) (T:TypeId) (n:outParam Nat):Prop where
 h:uk P T n=true
class StrI (P:Program) (T:TypeId):Prop where
 h:(match P.underlying T with|some .string=>true|_=>false)=true
class SlcI (P:Program) (T:TypeId):Prop where
 h:(match P.underlying T with|some (.slice _)=>true|_=>false)=true
theorem zdQ (h:fldB P S f off=true):∃fl,rz P S f=some fl∧((P.info? fl.type).isSome=true∧P.cellsOf fl.type≠0)∧fl.offset=off:=by
 unfold fldB at h
 split at h
 ·rename_i fl e
  simp only [Bool.and_eq_true,Bool.not_eq_true'] at h
  refine⟨fl,e,⟨h.1.1,fun h0=>?_⟩,Nat.eq_of_beq_eq_true h.2⟩
  rw [h0] at h;cases h.1.2
 ·cases h
theorem mz (h:fldB P S f off=true){i o:Nat}:di P S f (.c (.pt i o))=some (.c (.pt i (o+off))):=by
 obtain⟨fl,h1,h2,rfl⟩:=zdQ h
 unfold di
 rw [h1]
 simp only [if_pos h2]
theorem mA (h:fldB P S f off=true){l:List AC}{o:Nat}:di P S f (.c (.rp l o))=some (.c (.rp l (o+off))):=by
 obtain⟨fl,h1,h2,rfl⟩:=zdQ h
 unfold di
 rw [h1]
 simp only [if_pos h2]
theorem zeQ (h:uj P T=true):P.cellsOf T=1∧∀c,ww P T [c]=some (.c (ld c)):=by
 unfold uj at h
 split at h
 ·rename_i d i e1 e2
  simp only [Bool.and_eq_true,Bool.not_eq_true'] at h
  refine⟨Nat.eq_of_beq_eq_true h.2,fun c=>?_⟩
  unfold ww
  rw [e1,e2]
  simp only [h.1.2,List.length_cons,List.length_nil,Nat.eq_of_beq_eq_true h.1.1,if_true,Bool.false_eq_true,if_false]
 ·cases h
theorem zfQ (h:uk P T n=true):P.cellsOf T=n∧∀cs:List AC,cs.length=n→ww P T cs=some (.ag (cs.map ld)):=by
 unfold uk at h
 split at h
 ·rename_i d i e1 e2
  simp only [Bool.and_eq_true] at h
  refine⟨Nat.eq_of_beq_eq_true h.2,fun cs hl=>?_⟩
  unfold ww
  rw [e1,e2]
  simp only [h.1.2,hl,Nat.eq_of_beq_eq_true h.1.1,if_true]
 ·cases h
theorem qE {l:List AC}{o:Nat}{c:AC}(h:l[o]? = some c):gQ l o 1=[c]:=by
 unfold gQ
 obtain⟨ho,rfl⟩:=List.getElem?_eq_some_iff.1 h
 rw [List.drop_eq_getElem_cons ho]
 rfl
theorem qF {l:List AC}{n:Nat}(h:l.length=n):gQ l 0 n=l:=by
 unfold gQ
 rw [List.drop_zero,List.take_of_length_le omq]
theorem ul {hp:Nat→Option Row}(h:uj P T=true){i o:Nat}{rw_:Row}{c:AC}(hr:hp i=some rw_)(hc:rw_.cs[o]? = some c):fo P T hp (.c (.pt i o))=some (.c (ld c)):=by
 obtain⟨h1,h2⟩:=zeQ h
 unfold fo
 simp only [hr,Option.bind_some,h1,qE hc,h2]
theorem rL {hp:Nat→Option Row}(h:uj P T=true){l:List AC}{o:Nat}{c:AC}(hc:l[o]? = some c):fo P T hp (.c (.rp l o))=some (.c (ld c)):=by
 obtain⟨h1,h2⟩:=zeQ h
 unfold fo
 simp only [h1,qE hc,h2]
theorem um {hp:Nat→Option Row}(h:uk P T n=true){i:Nat}{rT:TypeId}{rk rn:Nat}{rb:Bool}{cs:List AC}(hr:hp i=some ⟨rT,rk,rn,rb,cs⟩)(hn:cs.length=n):fo P T hp (.c (.pt i 0))=some (.ag (cs.map ld)):=by
 obtain⟨h1,h2⟩:=zfQ h
 unfold fo
 simp only [hr,Option.bind_some,h1,qF hn,h2 _ hn]
theorem rM {hp:Nat→Option Row}(h:uk P T n=true){cs:List AC}(hn:cs.length=n):fo P T hp (.c (.rp cs 0))=some (.ag (cs.map ld)):=by
 obtain⟨h1,h2⟩:=zfQ h
 unfold fo
 simp only [h1,qF hn,h2 _ hn]
theorem xk {o:Oper}{ev:Operand→AV}{hp:Nat→Option Row}{id:Nat}{y:Operand}{s:ByteArray}(h:(match P.underlying T with|some .string=>true|_=>false)=true)(hx:ev y=.c (.v (.string s))):EffCallD P o ev hp id ⟨.builtin .len,#[y],#[T]⟩=some (.c (.v (.int .i64 s.size)),.nop):=by
 show (if mg P T (ev y)=true then nop? (yR (ev y)) else none)=_
 have:mg P T (ev y)=true:=by
  unfold mg
  rw [hx]
  split at h
  ·rename_i e;rw [e];rfl
  ·cases h
 rw [if_pos this,hx]
 rfl
theorem qG {o:Oper}{ev:Operand→AV}{hp:Nat→Option Row}{id:Nat}{y:Operand}{n:Nat}(h:(match P.underlying T with|some (.slice _)=>true|_=>false)=true)(hx:ii (ev y)=false)(hl:yR (ev y)=some (.c (.v (.int .i64 n)))):EffCallD P o ev hp id ⟨.builtin .len,#[y],#[T]⟩=some (.c (.v (.int .i64 n)),.nop):=by
 show (if mg P T (ev y)=true then nop? (yR (ev y)) else none)=_
 have:mg P T (ev y)=true:=by
  unfold mg
  rw [hx]
  split at h
  ·rename_i e;rw [e];rfl
  ·cases h
 rw [if_pos this,hl]
 rfl
end
instance:OneI prog 3:=⟨by kernel_rfl⟩
instance:OneI prog 4:=⟨by kernel_rfl⟩
instance:OneI prog 5:=⟨by kernel_rfl⟩
instance:OneI prog 9:=⟨by kernel_rfl⟩
instance:StrI prog 9:=⟨by kernel_rfl⟩
instance:OneI prog 15:=⟨by kernel_rfl⟩
instance:OneI prog 16:=⟨by kernel_rfl⟩
instance:OneI prog 17:=⟨by kernel_rfl⟩
instance:OneI prog 22:=⟨by kernel_rfl⟩
instance:SlcI prog 22:=⟨by kernel_rfl⟩
instance:OneI prog 24:=⟨by kernel_rfl⟩
instance:SlcI prog 24:=⟨by kernel_rfl⟩
instance:OneI prog 25:=⟨by kernel_rfl⟩
instance:SlcI prog 25:=⟨by kernel_rfl⟩
instance:FldI prog 27 0 0:=⟨by kernel_rfl⟩
instance:FldI prog 27 1 1:=⟨by kernel_rfl⟩
instance:AggI prog 27 2:=⟨by kernel_rfl⟩
instance:OneI prog 29:=⟨by kernel_rfl⟩
instance:SlcI prog 29:=⟨by kernel_rfl⟩
instance:OneI prog 31:=⟨by kernel_rfl⟩
instance:SlcI prog 31:=⟨by kernel_rfl⟩
instance:FldI prog 36 0 0:=⟨by kernel_rfl⟩
instance:FldI prog 36 1 1:=⟨by kernel_rfl⟩
instance:FldI prog 36 2 2:=⟨by kernel_rfl⟩
instance:AggI prog 36 3:=⟨by kernel_rfl⟩
instance:OneI prog 37:=⟨by kernel_rfl⟩
instance:SlcI prog 37:=⟨by kernel_rfl⟩
instance:FldI prog 39 0 0:=⟨by kernel_rfl⟩
instance:FldI prog 39 1 1:=⟨by kernel_rfl⟩
instance:FldI prog 39 2 2:=⟨by kernel_rfl⟩
instance:AggI prog 39 3:=⟨by kernel_rfl⟩
instance:OneI prog 44:=⟨by kernel_rfl⟩
instance:SlcI prog 44:=⟨by kernel_rfl⟩
instance:OneI prog 45:=⟨by kernel_rfl⟩
instance:SlcI prog 45:=⟨by kernel_rfl⟩
instance:FldI prog 47 0 0:=⟨by kernel_rfl⟩
instance:FldI prog 47 1 1:=⟨by kernel_rfl⟩
instance:AggI prog 47 2:=⟨by kernel_rfl⟩
instance:OneI prog 56:=⟨by kernel_rfl⟩
instance:SlcI prog 56:=⟨by kernel_rfl⟩
instance:OneI prog 57:=⟨by kernel_rfl⟩
instance:SlcI prog 57:=⟨by kernel_rfl⟩
instance:FldI prog 59 0 0:=⟨by kernel_rfl⟩
instance:FldI prog 59 1 1:=⟨by kernel_rfl⟩
instance:AggI prog 59 2:=⟨by kernel_rfl⟩
instance:OneI prog 63:=⟨by kernel_rfl⟩
instance:OneI prog 68:=⟨by kernel_rfl⟩
instance:SlcI prog 68:=⟨by kernel_rfl⟩
instance:FldI prog 70 0 0:=⟨by kernel_rfl⟩
instance:FldI prog 70 1 1:=⟨by kernel_rfl⟩
instance:FldI prog 70 2 2:=⟨by kernel_rfl⟩
instance:FldI prog 70 3 3:=⟨by kernel_rfl⟩
instance:AggI prog 70 4:=⟨by kernel_rfl⟩
instance:FldI prog 75 0 0:=⟨by kernel_rfl⟩
instance:FldI prog 75 1 1:=⟨by kernel_rfl⟩
instance:AggI prog 75 2:=⟨by kernel_rfl⟩
instance:OneI prog 76:=⟨by kernel_rfl⟩
instance:OneI prog 78:=⟨by kernel_rfl⟩
instance:FldI prog 80 0 0:=⟨by kernel_rfl⟩
instance:FldI prog 80 1 1:=⟨by kernel_rfl⟩
instance:FldI prog 80 2 2:=⟨by kernel_rfl⟩
instance:FldI prog 80 3 3:=⟨by kernel_rfl⟩
instance:AggI prog 80 4:=⟨by kernel_rfl⟩
instance:OneI prog 85:=⟨by kernel_rfl⟩
instance:SlcI prog 85:=⟨by kernel_rfl⟩
instance:FldI prog 87 0 0:=⟨by kernel_rfl⟩
instance:FldI prog 87 1 1:=⟨by kernel_rfl⟩
instance:FldI prog 87 2 5:=⟨by kernel_rfl⟩
instance:AggI prog 87 6:=⟨by kernel_rfl⟩
instance:FldI prog 89 0 0:=⟨by kernel_rfl⟩
instance:FldI prog 89 1 1:=⟨by kernel_rfl⟩
instance:FldI prog 89 2 2:=⟨by kernel_rfl⟩
instance:AggI prog 89 3:=⟨by kernel_rfl⟩
instance:FldI prog 106 0 0:=⟨by kernel_rfl⟩
instance:FldI prog 106 1 1:=⟨by kernel_rfl⟩
instance:FldI prog 106 2 2:=⟨by kernel_rfl⟩
instance:FldI prog 106 3 3:=⟨by kernel_rfl⟩
instance:FldI prog 106 4 4:=⟨by kernel_rfl⟩
instance:FldI prog 106 5 5:=⟨by kernel_rfl⟩
instance:AggI prog 106 6:=⟨by kernel_rfl⟩
instance:OneI prog 109:=⟨by kernel_rfl⟩
instance:SlcI prog 109:=⟨by kernel_rfl⟩
instance:FldI prog 112 0 0:=⟨by kernel_rfl⟩
instance:FldI prog 112 1 1:=⟨by kernel_rfl⟩
instance:FldI prog 112 2 2:=⟨by kernel_rfl⟩
instance:FldI prog 112 3 3:=⟨by kernel_rfl⟩
instance:AggI prog 112 4:=⟨by kernel_rfl⟩
instance:FldI prog 120 0 0:=⟨by kernel_rfl⟩
instance:FldI prog 120 1 1:=⟨by kernel_rfl⟩
instance:FldI prog 120 2 2:=⟨by kernel_rfl⟩
instance:FldI prog 120 3 3:=⟨by kernel_rfl⟩
instance:FldI prog 120 4 4:=⟨by kernel_rfl⟩
instance:FldI prog 120 5 5:=⟨by kernel_rfl⟩
instance:FldI prog 120 6 6:=⟨by kernel_rfl⟩
instance:AggI prog 120 7:=⟨by kernel_rfl⟩
instance:OneI prog 121:=⟨by kernel_rfl⟩
instance:FldI prog 127 0 0:=⟨by kernel_rfl⟩
instance:FldI prog 127 1 1:=⟨by kernel_rfl⟩
instance:AggI prog 127 4:=⟨by kernel_rfl⟩
instance:OneI prog 128:=⟨by kernel_rfl⟩
instance:SlcI prog 128:=⟨by kernel_rfl⟩
instance:FldI prog 130 0 0:=⟨by kernel_rfl⟩
instance:FldI prog 130 1 1:=⟨by kernel_rfl⟩
instance:AggI prog 130 2:=⟨by kernel_rfl⟩
instance:FldI prog 136 0 0:=⟨by kernel_rfl⟩
instance:FldI prog 136 1 1:=⟨by kernel_rfl⟩
instance:FldI prog 136 2 2:=⟨by kernel_rfl⟩
instance:AggI prog 136 3:=⟨by kernel_rfl⟩
instance:OneI prog 150:=⟨by kernel_rfl⟩
instance:SlcI prog 150:=⟨by kernel_rfl⟩
instance:FldI prog 152 0 0:=⟨by kernel_rfl⟩
instance:FldI prog 152 1 1:=⟨by kernel_rfl⟩
instance:FldI prog 152 2 2:=⟨by kernel_rfl⟩
instance:FldI prog 152 3 3:=⟨by kernel_rfl⟩
instance:AggI prog 152 4:=⟨by kernel_rfl⟩
instance:OneI prog 153:=⟨by kernel_rfl⟩
instance:SlcI prog 153:=⟨by kernel_rfl⟩
instance:FldI prog 155 0 0:=⟨by kernel_rfl⟩
instance:FldI prog 155 1 1:=⟨by kernel_rfl⟩
instance:FldI prog 155 2 5:=⟨by kernel_rfl⟩
instance:AggI prog 155 6:=⟨by kernel_rfl⟩
instance:FldI prog 158 0 0:=⟨by kernel_rfl⟩
instance:FldI prog 158 1 1:=⟨by kernel_rfl⟩
instance:FldI prog 158 2 2:=⟨by kernel_rfl⟩
instance:AggI prog 158 3:=⟨by kernel_rfl⟩
instance:OneI prog 180:=⟨by kernel_rfl⟩
instance:SlcI prog 180:=⟨by kernel_rfl⟩
instance:FldI prog 210 0 0:=⟨by kernel_rfl⟩
instance:FldI prog 210 1 1:=⟨by kernel_rfl⟩
instance:AggI prog 210 4:=⟨by kernel_rfl⟩
instance:OneI prog 214:=⟨by kernel_rfl⟩
instance:FldI prog 227 0 0:=⟨by kernel_rfl⟩
instance:FldI prog 227 1 1:=⟨by kernel_rfl⟩
instance:FldI prog 227 2 2:=⟨by kernel_rfl⟩
instance:FldI prog 227 3 3:=⟨by kernel_rfl⟩
instance:FldI prog 227 4 4:=⟨by kernel_rfl⟩
instance:FldI prog 227 5 5:=⟨by kernel_rfl⟩
instance:AggI prog 227 6:=⟨by kernel_rfl⟩
instance:OneI prog 249:=⟨by kernel_rfl⟩
instance:OneI prog 256:=⟨by kernel_rfl⟩
instance:OneI prog 258:=⟨by kernel_rfl⟩
instance:SlcI prog 258:=⟨by kernel_rfl⟩
instance:OneI prog 263:=⟨by kernel_rfl⟩
instance:OneI prog 266:=⟨by kernel_rfl⟩
instance:FldI prog 268 0 0:=⟨by kernel_rfl⟩
instance:FldI prog 268 1 1:=⟨by kernel_rfl⟩
instance:FldI prog 268 2 2:=⟨by kernel_rfl⟩
instance:FldI prog 268 3 3:=⟨by kernel_rfl⟩
instance:AggI prog 268 4:=⟨by kernel_rfl⟩
section
variable {ops:Array Oper}{Q:Exit→Act→World→Prop}{C:Ctx}{H H':List (Nat×Oper×Inf)}{i:Nat}{r:List Nat}{dr:Bool}
variable {tm:Nat→AV}{hp:Nat→Option Row}{gn L:Nat}{us:List Nat}
theorem gX {t:Nat}{ty:TypeId}{gd:Option (Nat×Bool)}{ps:String}{af:Array Edge}{S:TypeId}{f:Nat}{p:Operand}{i0 o0 off:Nat}[hF:FldI prog S f off](h:Walk prog ops Q C dr (bP dr (i,(⟨some t,.fieldAddr S p f,ty,ps,af,gd⟩:Oper),⟨fpO (AS.ev ⟨tm,hp,gn,us,L⟩) (⟨some t,.fieldAddr S p f,ty,ps,af,gd⟩:Oper),[],[],.c (.pt i0 (o0+off))⟩) H) r ⟨upd tm t (.c (.pt i0 (o0+off))),hp,gn,us,L⟩)(hx:AS.ev ⟨tm,hp,gn,us,L⟩ p=.c (.pt i0 o0):=by exact rfl)(ht:Nat.blt t L=true:=by exact rfl)(hg:gw ops tm (⟨some t,.fieldAddr S p f,ty,ps,af,gd⟩:Oper)=some true:=by exact rfl)(hc:chk dr ops i (⟨some t,.fieldAddr S p f,ty,ps,af,gd⟩:Oper) ⟨fpO (AS.ev ⟨tm,hp,gn,us,L⟩) (⟨some t,.fieldAddr S p f,ty,ps,af,gd⟩:Oper),[],[],.c (.pt i0 (o0+off))⟩ H=true:=by first|(with_reducible exact bB)|kernel_rfl):WalkO prog ops Q C dr H i (⟨some t,.fieldAddr S p f,ty,ps,af,gd⟩:Oper) r ⟨tm,hp,gn,us,L⟩:=⟨fun hop=>bD h hop rfl ht hg (by show nop? (di _ S f (AS.ev ⟨tm,hp,gn,us,L⟩ p))=_;rw [hx,mz hF.h];rfl) hc⟩
theorem o_far {t:Nat}{ty:TypeId}{gd:Option (Nat×Bool)}{ps:String}{af:Array Edge}{S:TypeId}{f:Nat}{p:Operand}{l:List AC}{o0 off:Nat}[hF:FldI prog S f off](h:Walk prog ops Q C dr (bP dr (i,(⟨some t,.fieldAddr S p f,ty,ps,af,gd⟩:Oper),⟨fpO (AS.ev ⟨tm,hp,gn,us,L⟩) (⟨some t,.fieldAddr S p f,ty,ps,af,gd⟩:Oper),[],[],.c (.rp l (o0+off))⟩) H) r ⟨upd tm t (.c (.rp l (o0+off))),hp,gn,us,L⟩)(hx:AS.ev ⟨tm,hp,gn,us,L⟩ p=.c (.rp l o0):=by exact rfl)(ht:Nat.blt t L=true:=by exact rfl)(hg:gw ops tm (⟨some t,.fieldAddr S p f,ty,ps,af,gd⟩:Oper)=some true:=by exact rfl)(hc:chk dr ops i (⟨some t,.fieldAddr S p f,ty,ps,af,gd⟩:Oper) ⟨fpO (AS.ev ⟨tm,hp,gn,us,L⟩) (⟨some t,.fieldAddr S p f,ty,ps,af,gd⟩:Oper),[],[],.c (.rp l (o0+off))⟩ H=true:=by first|(with_reducible exact bB)|kernel_rfl):WalkO prog ops Q C dr H i (⟨some t,.fieldAddr S p f,ty,ps,af,gd⟩:Oper) r ⟨tm,hp,gn,us,L⟩:=⟨fun hop=>bD h hop rfl ht hg (by show nop? (di _ S f (AS.ev ⟨tm,hp,gn,us,L⟩ p))=_;rw [hx,mA hF.h];rfl) hc⟩
theorem dJ {t:Nat}{ty:TypeId}{gd:Option (Nat×Bool)}{ps:String}{af:Array Edge}{T:TypeId}{p:Operand}{i0 o0:Nat}{rw:Row}{c:AC}[hF:OneI prog T](h:Walk prog ops Q C dr (bP dr (i,(⟨some t,.load T p,ty,ps,af,gd⟩:Oper),⟨fpO (AS.ev ⟨tm,hp,gn,us,L⟩) (⟨some t,.load T p,ty,ps,af,gd⟩:Oper),[],[],.c c⟩) H) r ⟨upd tm t (.c c),hp,gn,us,L⟩)(hx:AS.ev ⟨tm,hp,gn,us,L⟩ p=.c (.pt i0 o0):=by exact rfl)(hr:hp i0=some rw:=by exact rfl)(hcs:rw.cs[o0]? = some c:=by exact rfl)(hld:ld c=c:=by exact rfl)(ht:Nat.blt t L=true:=by exact rfl)(hg:gw ops tm (⟨some t,.load T p,ty,ps,af,gd⟩:Oper)=some true:=by exact rfl)(hc:chk dr ops i (⟨some t,.load T p,ty,ps,af,gd⟩:Oper) ⟨fpO (AS.ev ⟨tm,hp,gn,us,L⟩) (⟨some t,.load T p,ty,ps,af,gd⟩:Oper),[],[],.c c⟩ H=true:=by first|(with_reducible exact bB)|kernel_rfl):WalkO prog ops Q C dr H i (⟨some t,.load T p,ty,ps,af,gd⟩:Oper) r ⟨tm,hp,gn,us,L⟩:=⟨fun hop=>bD h hop rfl ht hg (by show nop? (fo _ T hp (AS.ev ⟨tm,hp,gn,us,L⟩ p))=_;rw [hx,ul hF.h hr hcs,hld];rfl) hc⟩
theorem qH {t:Nat}{ty:TypeId}{gd:Option (Nat×Bool)}{ps:String}{af:Array Edge}{T:TypeId}{p:Operand}{l:List AC}{o0:Nat}{c:AC}[hF:OneI prog T](h:Walk prog ops Q C dr (bP dr (i,(⟨some t,.load T p,ty,ps,af,gd⟩:Oper),⟨fpO (AS.ev ⟨tm,hp,gn,us,L⟩) (⟨some t,.load T p,ty,ps,af,gd⟩:Oper),[],[],.c c⟩) H) r ⟨upd tm t (.c c),hp,gn,us,L⟩)(hx:AS.ev ⟨tm,hp,gn,us,L⟩ p=.c (.rp l o0):=by exact rfl)(hcs:l[o0]? = some c:=by exact rfl)(hld:ld c=c:=by exact rfl)(ht:Nat.blt t L=true:=by exact rfl)(hg:gw ops tm (⟨some t,.load T p,ty,ps,af,gd⟩:Oper)=some true:=by exact rfl)(hc:chk dr ops i (⟨some t,.load T p,ty,ps,af,gd⟩:Oper) ⟨fpO (AS.ev ⟨tm,hp,gn,us,L⟩) (⟨some t,.load T p,ty,ps,af,gd⟩:Oper),[],[],.c c⟩ H=true:=by first|(with_reducible exact bB)|kernel_rfl):WalkO prog ops Q C dr H i (⟨some t,.load T p,ty,ps,af,gd⟩:Oper) r ⟨tm,hp,gn,us,L⟩:=⟨fun hop=>bD h hop rfl ht hg (by show nop? (fo _ T hp (AS.ev ⟨tm,hp,gn,us,L⟩ p))=_;rw [hx,rL hF.h hcs,hld];rfl) hc⟩
theorem rN {t:Nat}{ty:TypeId}{gd:Option (Nat×Bool)}{ps:String}{af:Array Edge}{T:TypeId}{p:Operand}{i0 n:Nat}{cs:List AC}{rT:TypeId}{rk rn:Nat}{rb:Bool}[hF:AggI prog T n](h:Walk prog ops Q C dr (bP dr (i,(⟨some t,.load T p,ty,ps,af,gd⟩:Oper),⟨fpO (AS.ev ⟨tm,hp,gn,us,L⟩) (⟨some t,.load T p,ty,ps,af,gd⟩:Oper),[],[],.ag cs⟩) H) r ⟨upd tm t (.ag cs),hp,gn,us,L⟩)(hx:AS.ev ⟨tm,hp,gn,us,L⟩ p=.c (.pt i0 0):=by exact rfl)(hr:hp i0=some ⟨rT,rk,rn,rb,cs⟩:=by exact rfl)(hn:cs.length=n:=by exact rfl)(hld:cs.map ld=cs:=by exact rfl)(ht:Nat.blt t L=true:=by exact rfl)(hg:gw ops tm (⟨some t,.load T p,ty,ps,af,gd⟩:Oper)=some true:=by exact rfl)(hc:chk dr ops i (⟨some t,.load T p,ty,ps,af,gd⟩:Oper) ⟨fpO (AS.ev ⟨tm,hp,gn,us,L⟩) (⟨some t,.load T p,ty,ps,af,gd⟩:Oper),[],[],.ag cs⟩ H=true:=by first|(with_reducible exact bB)|kernel_rfl):WalkO prog ops Q C dr H i (⟨some t,.load T p,ty,ps,af,gd⟩:Oper) r ⟨tm,hp,gn,us,L⟩:=⟨fun hop=>bD h hop rfl ht hg (by show nop? (fo _ T hp (AS.ev ⟨tm,hp,gn,us,L⟩ p))=_;rw [hx,um hF.h hr hn,hld];rfl) hc⟩
theorem qI {t:Nat}{ty:TypeId}{gd:Option (Nat×Bool)}{ps:String}{af:Array Edge}{T:TypeId}{p:Operand}{n:Nat}{cs:List AC}[hF:AggI prog T n](h:Walk prog ops Q C dr (bP dr (i,(⟨some t,.load T p,ty,ps,af,gd⟩:Oper),⟨fpO (AS.ev ⟨tm,hp,gn,us,L⟩) (⟨some t,.load T p,ty,ps,af,gd⟩:Oper),[],[],.ag cs⟩) H) r ⟨upd tm t (.ag cs),hp,gn,us,L⟩)(hx:AS.ev ⟨tm,hp,gn,us,L⟩ p=.c (.rp cs 0):=by exact rfl)(hn:cs.length=n:=by exact rfl)(hld:cs.map ld=cs:=by exact rfl)(ht:Nat.blt t L=true:=by exact rfl)(hg:gw ops tm (⟨some t,.load T p,ty,ps,af,gd⟩:Oper)=some true:=by exact rfl)(hc:chk dr ops i (⟨some t,.load T p,ty,ps,af,gd⟩:Oper) ⟨fpO (AS.ev ⟨tm,hp,gn,us,L⟩) (⟨some t,.load T p,ty,ps,af,gd⟩:Oper),[],[],.ag cs⟩ H=true:=by first|(with_reducible exact bB)|kernel_rfl):WalkO prog ops Q C dr H i (⟨some t,.load T p,ty,ps,af,gd⟩:Oper) r ⟨tm,hp,gn,us,L⟩:=⟨fun hop=>bD h hop rfl ht hg (by show nop? (fo _ T hp (AS.ev ⟨tm,hp,gn,us,L⟩ p))=_;rw [hx,rM hF.h hn,hld];rfl) hc⟩
theorem fw {t:Nat}{ty:TypeId}{gd:Option (Nat×Bool)}{ps:String}{af:Array Edge}{T:TypeId}{y:Operand}{s:ByteArray}[hF:StrI prog T](h:Walk prog ops Q C dr (bP dr (i,(⟨some t,.call ⟨.builtin .len,#[y],#[T]⟩,ty,ps,af,gd⟩:Oper),⟨fpO (AS.ev ⟨tm,hp,gn,us,L⟩) (⟨some t,.call ⟨.builtin .len,#[y],#[T]⟩,ty,ps,af,gd⟩:Oper),[],[],.c (.v (.int .i64 s.size))⟩) H) r ⟨upd tm t (.c (.v (.int .i64 s.size))),hp,gn,us,L⟩)(hx:AS.ev ⟨tm,hp,gn,us,L⟩ y=.c (.v (.string s)):=by exact rfl)(ht:Nat.blt t L=true:=by exact rfl)(hg:gw ops tm (⟨some t,.call ⟨.builtin .len,#[y],#[T]⟩,ty,ps,af,gd⟩:Oper)=some true:=by exact rfl)(hc:chk dr ops i (⟨some t,.call ⟨.builtin .len,#[y],#[T]⟩,ty,ps,af,gd⟩:Oper) ⟨fpO (AS.ev ⟨tm,hp,gn,us,L⟩) (⟨some t,.call ⟨.builtin .len,#[y],#[T]⟩,ty,ps,af,gd⟩:Oper),[],[],.c (.v (.int .i64 s.size))⟩ H=true:=by first|(with_reducible exact bB)|kernel_rfl):WalkO prog ops Q C dr H i (⟨some t,.call ⟨.builtin .len,#[y],#[T]⟩,ty,ps,af,gd⟩:Oper) r ⟨tm,hp,gn,us,L⟩:=⟨fun hop=>bD h hop rfl ht hg (xk (o:=(⟨some t,.call ⟨.builtin .len,#[y],#[T]⟩,ty,ps,af,gd⟩:Oper)) (hp:=hp) (id:=0) hF.h hx) hc⟩
theorem zn3 {t:Nat}{ty:TypeId}{gd:Option (Nat×Bool)}{ps:String}{af:Array Edge}{T:TypeId}{y:Operand}{n k:Nat}{l:List AC}[hF:SlcI prog T](h:Walk prog ops Q C dr (bP dr (i,(⟨some t,.call ⟨.builtin .len,#[y],#[T]⟩,ty,ps,af,gd⟩:Oper),⟨fpO (AS.ev ⟨tm,hp,gn,us,L⟩) (⟨some t,.call ⟨.builtin .len,#[y],#[T]⟩,ty,ps,af,gd⟩:Oper),[],[],.c (.v (.int .i64 n))⟩) H) r ⟨upd tm t (.c (.v (.int .i64 n))),hp,gn,us,L⟩)(hx:AS.ev ⟨tm,hp,gn,us,L⟩ y=.c (.ro n k l):=by exact rfl)(ht:Nat.blt t L=true:=by exact rfl)(hg:gw ops tm (⟨some t,.call ⟨.builtin .len,#[y],#[T]⟩,ty,ps,af,gd⟩:Oper)=some true:=by exact rfl)(hc:chk dr ops i (⟨some t,.call ⟨.builtin .len,#[y],#[T]⟩,ty,ps,af,gd⟩:Oper) ⟨fpO (AS.ev ⟨tm,hp,gn,us,L⟩) (⟨some t,.call ⟨.builtin .len,#[y],#[T]⟩,ty,ps,af,gd⟩:Oper),[],[],.c (.v (.int .i64 n))⟩ H=true:=by first|(with_reducible exact bB)|kernel_rfl):WalkO prog ops Q C dr H i (⟨some t,.call ⟨.builtin .len,#[y],#[T]⟩,ty,ps,af,gd⟩:Oper) r ⟨tm,hp,gn,us,L⟩:=⟨fun hop=>bD h hop rfl ht hg (qG (o:=(⟨some t,.call ⟨.builtin .len,#[y],#[T]⟩,ty,ps,af,gd⟩:Oper)) (hp:=hp) (id:=0) hF.h (by rw [hx];rfl) (by rw [hx];rfl)) hc⟩
theorem zo3 {t:Nat}{ty:TypeId}{gd:Option (Nat×Bool)}{ps:String}{af:Array Edge}{T:TypeId}{y:Operand}{j n:Nat}[hF:SlcI prog T](h:Walk prog ops Q C dr (bP dr (i,(⟨some t,.call ⟨.builtin .len,#[y],#[T]⟩,ty,ps,af,gd⟩:Oper),⟨fpO (AS.ev ⟨tm,hp,gn,us,L⟩) (⟨some t,.call ⟨.builtin .len,#[y],#[T]⟩,ty,ps,af,gd⟩:Oper),[],[],.c (.v (.int .i64 n))⟩) H) r ⟨upd tm t (.c (.v (.int .i64 n))),hp,gn,us,L⟩)(hx:AS.ev ⟨tm,hp,gn,us,L⟩ y=.c (.sl j n):=by exact rfl)(ht:Nat.blt t L=true:=by exact rfl)(hg:gw ops tm (⟨some t,.call ⟨.builtin .len,#[y],#[T]⟩,ty,ps,af,gd⟩:Oper)=some true:=by exact rfl)(hc:chk dr ops i (⟨some t,.call ⟨.builtin .len,#[y],#[T]⟩,ty,ps,af,gd⟩:Oper) ⟨fpO (AS.ev ⟨tm,hp,gn,us,L⟩) (⟨some t,.call ⟨.builtin .len,#[y],#[T]⟩,ty,ps,af,gd⟩:Oper),[],[],.c (.v (.int .i64 n))⟩ H=true:=by first|(with_reducible exact bB)|kernel_rfl):WalkO prog ops Q C dr H i (⟨some t,.call ⟨.builtin .len,#[y],#[T]⟩,ty,ps,af,gd⟩:Oper) r ⟨tm,hp,gn,us,L⟩:=⟨fun hop=>bD h hop rfl ht hg (qG (o:=(⟨some t,.call ⟨.builtin .len,#[y],#[T]⟩,ty,ps,af,gd⟩:Oper)) (hp:=hp) (id:=0) hF.h (by rw [hx];rfl) (by rw [hx];rfl)) hc⟩
end
section
variable {P:Program}{ops:Array Oper}{Q:Exit→Act→World→Prop}{C:Ctx}{H:List (Nat×Oper×Inf)}{i:Nat}{r:List Nat}{dr:Bool}{σ:AS}{ty:TypeId}{ps:String}{af:Array Edge}
theorem d_gs {d:Option Tmp}{op:Op}{gb:Nat×Bool}(h:WalkO P ops Q C dr H i (⟨d,op,ty,ps,af,some gb⟩:Oper) r σ):WalkO P ops Q C dr H i (⟨d,op,ty,ps,af,some gb⟩:Oper) r σ:=h
theorem d_bo {t:Tmp}{op:Op}{gd:Option (Nat×Bool)}(h:WalkO P ops Q C dr H i (⟨some t,op,4,ps,af,gd⟩:Oper) r σ):WalkO P ops Q C dr H i (⟨some t,op,4,ps,af,gd⟩:Oper) r σ:=h
theorem d_ca {t:Tmp}{fv:Operand}{as_:Array Operand}{ts:Array TypeId}{gd:Option (Nat×Bool)}(h:WalkO P ops Q C dr H i (⟨some t,.call ⟨.value fv,as_,ts⟩,ty,ps,af,gd⟩:Oper) r σ):WalkO P ops Q C dr H i (⟨some t,.call ⟨.value fv,as_,ts⟩,ty,ps,af,gd⟩:Oper) r σ:=h
theorem d_bi {t:Tmp}{b:Builtin}{as_:Array Operand}{ts:Array TypeId}{gd:Option (Nat×Bool)}(h:WalkO P ops Q C dr H i (⟨some t,.call ⟨.builtin b,as_,ts⟩,ty,ps,af,gd⟩:Oper) r σ):WalkO P ops Q C dr H i (⟨some t,.call ⟨.builtin b,as_,ts⟩,ty,ps,af,gd⟩:Oper) r σ:=h
theorem d_fa {t:Tmp}{S:TypeId}{f:Nat}{p:Operand}{gd:Option (Nat×Bool)}(h:WalkO P ops Q C dr H i (⟨some t,.fieldAddr S p f,ty,ps,af,gd⟩:Oper) r σ):WalkO P ops Q C dr H i (⟨some t,.fieldAddr S p f,ty,ps,af,gd⟩:Oper) r σ:=h
theorem d_ld {t:Tmp}{T:TypeId}{p:Operand}{gd:Option (Nat×Bool)}(h:WalkO P ops Q C dr H i (⟨some t,.load T p,ty,ps,af,gd⟩:Oper) r σ):WalkO P ops Q C dr H i (⟨some t,.load T p,ty,ps,af,gd⟩:Oper) r σ:=h
theorem d_st {T:TypeId}{p y:Operand}{gd:Option (Nat×Bool)}(h:WalkO P ops Q C dr H i (⟨none,.store T p y,ty,ps,af,gd⟩:Oper) r σ):WalkO P ops Q C dr H i (⟨none,.store T p y,ty,ps,af,gd⟩:Oper) r σ:=h
theorem d_ia {t:Tmp}{T:TypeId}{x y:Operand}{gd:Option (Nat×Bool)}(h:WalkO P ops Q C dr H i (⟨some t,.indexAddr T x y,ty,ps,af,gd⟩:Oper) r σ):WalkO P ops Q C dr H i (⟨some t,.indexAddr T x y,ty,ps,af,gd⟩:Oper) r σ:=h
theorem lL {t:Tmp}{T U:TypeId}{b:BinOp}{x y:Operand}{gd:Option (Nat×Bool)}(h:WalkO P ops Q C dr H i (⟨some t,.binOp b T x y U,ty,ps,af,gd⟩:Oper) r σ):WalkO P ops Q C dr H i (⟨some t,.binOp b T x y U,ty,ps,af,gd⟩:Oper) r σ:=h
theorem gg {t:Tmp}{x:Operand}{gd:Option (Nat×Bool)}(h:WalkO P ops Q C dr H i (⟨some t,.move x,ty,ps,af,gd⟩:Oper) r σ):WalkO P ops Q C dr H i (⟨some t,.move x,ty,ps,af,gd⟩:Oper) r σ:=h
theorem d_as {t:Tmp}{x:Operand}{gd:Option (Nat×Bool)}(h:WalkO P ops Q C dr H i (⟨some t,.assign x,ty,ps,af,gd⟩:Oper) r σ):WalkO P ops Q C dr H i (⟨some t,.assign x,ty,ps,af,gd⟩:Oper) r σ:=h
theorem fH {o:Oper}(h:WalkO P ops Q C dr H i o r σ):WalkO P ops Q C dr H i o r σ:=h
theorem d_w {l:List Nat}(h:Walk P ops Q C dr H l σ):Walk P ops Q C dr H l σ:=h
end
end Go.Proofs.YtmnneflenebgmaaGreat
