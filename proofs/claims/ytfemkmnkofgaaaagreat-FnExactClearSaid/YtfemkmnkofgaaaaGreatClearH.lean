/- The machine's rules for fields, loads and lengths, over facts of the types that are worked out once. -/
import Derived.Test.YtfemkmnkofgaaaaGreatClearG
namespace Go.Proofs.YtfemkmnkofgaaaaGreat
open Go.RowKit
set_option maxRecDepth 100000
section
variable {P:Program}{S T:TypeId}{f off n:Nat}
def fldB (P:Program)(S:TypeId)(f off:Nat):Bool:=match fldOf P S f with|some fl=>(P.info? fl.type).isSome&&!(Nat.beq (P.cellsOf fl.type) 0)&&Nat.beq fl.offset off|none=>false
class FldI (P:Program) (S:TypeId) (f:Nat) (off:outParam Nat):Prop where
 h:fldB P S f off=true
def oneTB (P:Program)(T:TypeId):Bool:=match P.underlying T,P.info? T with|some d,some i=>Nat.beq i.size 1&&!(aggD d)&&Nat.beq (P.cellsOf T) 1|_,_=>false
class OneI (P:Program) (T:TypeId):Prop where
 h:oneTB P T=true
def aggTB (P:Program)(T:TypeId)(n:Nat):Bool:=match P.underlying T,P.info? T with|some d,some i=>Nat.beq i.size n&&aggD d&&Nat.beq (P.cellsOf T) n|_,_=>false
class AggI (P:Program) (T:TypeId) (n:outParam Nat):Prop where
 h:aggTB P T n=true
class StrI (P:Program) (T:TypeId):Prop where
 h:(match P.underlying T with|some .string=>true|_=>false)=true
class SlcI (P:Program) (T:TypeId):Prop where
 h:(match P.underlying T with|some (.slice _)=>true|_=>false)=true
theorem zl20 (h:fldB P S f off=true):∃fl,fldOf P S f=some fl∧((P.info? fl.type).isSome=true∧P.cellsOf fl.type≠0)∧fl.offset=off:=by
 unfold fldB at h
 split at h
 ·rename_i fl e
  simp only [Bool.and_eq_true,Bool.not_eq_true'] at h
  refine⟨fl,e,⟨h.1.1,fun h0=>?_⟩,Nat.eq_of_beq_eq_true h.2⟩
  rw [h0] at h;cases h.1.2
 ·cases h
theorem zz8 (h:fldB P S f off=true){i o:Nat}:aFieldAddr P S f (.c (.pt i o))=some (.c (.pt i (o+off))):=by
 obtain⟨fl,h1,h2,rfl⟩:=zl20 h
 unfold aFieldAddr
 rw [h1]
 simp only [if_pos h2]
theorem za9 (h:fldB P S f off=true){l:List AC}{o:Nat}:aFieldAddr P S f (.c (.rp l o))=some (.c (.rp l (o+off))):=by
 obtain⟨fl,h1,h2,rfl⟩:=zl20 h
 unfold aFieldAddr
 rw [h1]
 simp only [if_pos h2]
theorem zm20 (h:oneTB P T=true):P.cellsOf T=1∧∀c,mkAV P T [c]=some (.c (ld c)):=by
 unfold oneTB at h
 split at h
 ·rename_i d i e1 e2
  simp only [Bool.and_eq_true,Bool.not_eq_true'] at h
  refine⟨Nat.eq_of_beq_eq_true h.2,fun c=>?_⟩
  unfold mkAV
  rw [e1,e2]
  simp only [h.1.2,List.length_cons,List.length_nil,Nat.eq_of_beq_eq_true h.1.1,if_true,Bool.false_eq_true,if_false]
 ·cases h
theorem zn20 (h:aggTB P T n=true):P.cellsOf T=n∧∀cs:List AC,cs.length=n→mkAV P T cs=some (.ag (cs.map ld)):=by
 unfold aggTB at h
 split at h
 ·rename_i d i e1 e2
  simp only [Bool.and_eq_true] at h
  refine⟨Nat.eq_of_beq_eq_true h.2,fun cs hl=>?_⟩
  unfold mkAV
  rw [e1,e2]
  simp only [h.1.2,hl,Nat.eq_of_beq_eq_true h.1.1,if_true]
 ·cases h
theorem zx13 {l:List AC}{o:Nat}{c:AC}(h:l[o]? = some c):subL l o 1=[c]:=by
 unfold subL
 obtain⟨ho,rfl⟩:=List.getElem?_eq_some_iff.1 h
 rw [List.drop_eq_getElem_cons ho]
 rfl
theorem zy13 {l:List AC}{n:Nat}(h:l.length=n):subL l 0 n=l:=by
 unfold subL
 rw [List.drop_zero,List.take_of_length_le (by omega)]
theorem zk17 {hp:Nat→Option Row}(h:oneTB P T=true){i o:Nat}{rw_:Row}{c:AC}(hr:hp i=some rw_)(hc:rw_.cs[o]? = some c):aLoad P T hp (.c (.pt i o))=some (.c (ld c)):=by
 obtain⟨h1,h2⟩:=zm20 h
 unfold aLoad
 simp only [hr,Option.bind_some,h1,zx13 hc,h2]
theorem zo14 {hp:Nat→Option Row}(h:oneTB P T=true){l:List AC}{o:Nat}{c:AC}(hc:l[o]? = some c):aLoad P T hp (.c (.rp l o))=some (.c (ld c)):=by
 obtain⟨h1,h2⟩:=zm20 h
 unfold aLoad
 simp only [h1,zx13 hc,h2]
theorem zl17 {hp:Nat→Option Row}(h:aggTB P T n=true){i:Nat}{rT:TypeId}{rk rn:Nat}{rb:Bool}{cs:List AC}(hr:hp i=some ⟨rT,rk,rn,rb,cs⟩)(hn:cs.length=n):aLoad P T hp (.c (.pt i 0))=some (.ag (cs.map ld)):=by
 obtain⟨h1,h2⟩:=zn20 h
 unfold aLoad
 simp only [hr,Option.bind_some,h1,zy13 hn,h2 _ hn]
theorem zp14 {hp:Nat→Option Row}(h:aggTB P T n=true){cs:List AC}(hn:cs.length=n):aLoad P T hp (.c (.rp cs 0))=some (.ag (cs.map ld)):=by
 obtain⟨h1,h2⟩:=zn20 h
 unfold aLoad
 simp only [h1,zy13 hn,h2 _ hn]
theorem zo19 {o:Oper}{ev:Operand→AV}{hp:Nat→Option Row}{id:Nat}{y:Operand}{s:ByteArray}(h:(match P.underlying T with|some .string=>true|_=>false)=true)(hx:ev y=.c (.v (.string s))):EffCallD P o ev hp id ⟨.builtin .len,#[y],#[T]⟩=some (.c (.v (.int .i64 s.size)),.nop):=by
 show (if lenOk P T (ev y)=true then nop? (aLen (ev y)) else none)=_
 have:lenOk P T (ev y)=true:=by
  unfold lenOk
  rw [hx]
  split at h
  ·rename_i e;rw [e];rfl
  ·cases h
 rw [if_pos this,hx]
 rfl
theorem zz13 {o:Oper}{ev:Operand→AV}{hp:Nat→Option Row}{id:Nat}{y:Operand}{n:Nat}(h:(match P.underlying T with|some (.slice _)=>true|_=>false)=true)(hx:isStr (ev y)=false)(hl:aLen (ev y)=some (.c (.v (.int .i64 n)))):EffCallD P o ev hp id ⟨.builtin .len,#[y],#[T]⟩=some (.c (.v (.int .i64 n)),.nop):=by
 show (if lenOk P T (ev y)=true then nop? (aLen (ev y)) else none)=_
 have:lenOk P T (ev y)=true:=by
  unfold lenOk
  rw [hx]
  split at h
  ·rename_i e;rw [e];rfl
  ·cases h
 rw [if_pos this,hl]
 rfl
end
instance:OneI Tryz.prog 3:=⟨by kernel_rfl⟩
instance:OneI Tryz.prog 4:=⟨by kernel_rfl⟩
instance:OneI Tryz.prog 5:=⟨by kernel_rfl⟩
instance:OneI Tryz.prog 9:=⟨by kernel_rfl⟩
instance:StrI Tryz.prog 9:=⟨by kernel_rfl⟩
instance:OneI Tryz.prog 15:=⟨by kernel_rfl⟩
instance:OneI Tryz.prog 16:=⟨by kernel_rfl⟩
instance:OneI Tryz.prog 17:=⟨by kernel_rfl⟩
instance:OneI Tryz.prog 22:=⟨by kernel_rfl⟩
instance:SlcI Tryz.prog 22:=⟨by kernel_rfl⟩
instance:FldI Tryz.prog 24 0 0:=⟨by kernel_rfl⟩
instance:AggI Tryz.prog 24 1:=⟨by kernel_rfl⟩
instance:OneI Tryz.prog 25:=⟨by kernel_rfl⟩
instance:SlcI Tryz.prog 25:=⟨by kernel_rfl⟩
instance:OneI Tryz.prog 26:=⟨by kernel_rfl⟩
instance:SlcI Tryz.prog 26:=⟨by kernel_rfl⟩
instance:OneI Tryz.prog 27:=⟨by kernel_rfl⟩
instance:SlcI Tryz.prog 27:=⟨by kernel_rfl⟩
instance:OneI Tryz.prog 28:=⟨by kernel_rfl⟩
instance:SlcI Tryz.prog 28:=⟨by kernel_rfl⟩
instance:FldI Tryz.prog 30 0 0:=⟨by kernel_rfl⟩
instance:FldI Tryz.prog 30 1 1:=⟨by kernel_rfl⟩
instance:AggI Tryz.prog 30 2:=⟨by kernel_rfl⟩
instance:OneI Tryz.prog 31:=⟨by kernel_rfl⟩
instance:SlcI Tryz.prog 31:=⟨by kernel_rfl⟩
instance:FldI Tryz.prog 33 0 0:=⟨by kernel_rfl⟩
instance:FldI Tryz.prog 33 1 1:=⟨by kernel_rfl⟩
instance:FldI Tryz.prog 33 2 2:=⟨by kernel_rfl⟩
instance:FldI Tryz.prog 33 3 3:=⟨by kernel_rfl⟩
instance:FldI Tryz.prog 33 4 4:=⟨by kernel_rfl⟩
instance:FldI Tryz.prog 33 5 6:=⟨by kernel_rfl⟩
instance:FldI Tryz.prog 33 6 7:=⟨by kernel_rfl⟩
instance:FldI Tryz.prog 33 7 8:=⟨by kernel_rfl⟩
instance:FldI Tryz.prog 33 8 9:=⟨by kernel_rfl⟩
instance:FldI Tryz.prog 33 9 10:=⟨by kernel_rfl⟩
instance:FldI Tryz.prog 33 10 11:=⟨by kernel_rfl⟩
instance:FldI Tryz.prog 33 11 12:=⟨by kernel_rfl⟩
instance:AggI Tryz.prog 33 13:=⟨by kernel_rfl⟩
instance:OneI Tryz.prog 35:=⟨by kernel_rfl⟩
instance:SlcI Tryz.prog 35:=⟨by kernel_rfl⟩
instance:FldI Tryz.prog 37 0 0:=⟨by kernel_rfl⟩
instance:AggI Tryz.prog 37 1:=⟨by kernel_rfl⟩
instance:OneI Tryz.prog 38:=⟨by kernel_rfl⟩
instance:SlcI Tryz.prog 38:=⟨by kernel_rfl⟩
instance:OneI Tryz.prog 39:=⟨by kernel_rfl⟩
instance:SlcI Tryz.prog 39:=⟨by kernel_rfl⟩
instance:FldI Tryz.prog 40 0 0:=⟨by kernel_rfl⟩
instance:FldI Tryz.prog 40 1 1:=⟨by kernel_rfl⟩
instance:AggI Tryz.prog 40 2:=⟨by kernel_rfl⟩
instance:FldI Tryz.prog 42 0 0:=⟨by kernel_rfl⟩
instance:FldI Tryz.prog 42 1 1:=⟨by kernel_rfl⟩
instance:FldI Tryz.prog 42 2 2:=⟨by kernel_rfl⟩
instance:FldI Tryz.prog 42 3 3:=⟨by kernel_rfl⟩
instance:FldI Tryz.prog 42 4 4:=⟨by kernel_rfl⟩
instance:FldI Tryz.prog 42 5 6:=⟨by kernel_rfl⟩
instance:FldI Tryz.prog 42 6 7:=⟨by kernel_rfl⟩
instance:FldI Tryz.prog 42 7 8:=⟨by kernel_rfl⟩
instance:FldI Tryz.prog 42 8 9:=⟨by kernel_rfl⟩
instance:FldI Tryz.prog 42 9 10:=⟨by kernel_rfl⟩
instance:FldI Tryz.prog 42 10 11:=⟨by kernel_rfl⟩
instance:FldI Tryz.prog 42 11 12:=⟨by kernel_rfl⟩
instance:AggI Tryz.prog 42 13:=⟨by kernel_rfl⟩
instance:OneI Tryz.prog 55:=⟨by kernel_rfl⟩
instance:OneI Tryz.prog 56:=⟨by kernel_rfl⟩
instance:SlcI Tryz.prog 56:=⟨by kernel_rfl⟩
instance:OneI Tryz.prog 57:=⟨by kernel_rfl⟩
instance:SlcI Tryz.prog 57:=⟨by kernel_rfl⟩
instance:OneI Tryz.prog 58:=⟨by kernel_rfl⟩
instance:SlcI Tryz.prog 58:=⟨by kernel_rfl⟩
instance:FldI Tryz.prog 60 0 0:=⟨by kernel_rfl⟩
instance:FldI Tryz.prog 60 1 1:=⟨by kernel_rfl⟩
instance:FldI Tryz.prog 60 2 2:=⟨by kernel_rfl⟩
instance:FldI Tryz.prog 60 3 3:=⟨by kernel_rfl⟩
instance:FldI Tryz.prog 60 4 4:=⟨by kernel_rfl⟩
instance:FldI Tryz.prog 60 5 5:=⟨by kernel_rfl⟩
instance:AggI Tryz.prog 60 6:=⟨by kernel_rfl⟩
instance:OneI Tryz.prog 62:=⟨by kernel_rfl⟩
instance:OneI Tryz.prog 63:=⟨by kernel_rfl⟩
instance:SlcI Tryz.prog 63:=⟨by kernel_rfl⟩
instance:FldI Tryz.prog 65 0 0:=⟨by kernel_rfl⟩
instance:AggI Tryz.prog 65 1:=⟨by kernel_rfl⟩
instance:FldI Tryz.prog 67 0 0:=⟨by kernel_rfl⟩
instance:FldI Tryz.prog 67 1 1:=⟨by kernel_rfl⟩
instance:AggI Tryz.prog 67 2:=⟨by kernel_rfl⟩
instance:OneI Tryz.prog 88:=⟨by kernel_rfl⟩
instance:SlcI Tryz.prog 88:=⟨by kernel_rfl⟩
instance:FldI Tryz.prog 90 0 0:=⟨by kernel_rfl⟩
instance:AggI Tryz.prog 90 1:=⟨by kernel_rfl⟩
instance:OneI Tryz.prog 92:=⟨by kernel_rfl⟩
instance:SlcI Tryz.prog 92:=⟨by kernel_rfl⟩
instance:OneI Tryz.prog 93:=⟨by kernel_rfl⟩
instance:SlcI Tryz.prog 93:=⟨by kernel_rfl⟩
instance:OneI Tryz.prog 94:=⟨by kernel_rfl⟩
instance:SlcI Tryz.prog 94:=⟨by kernel_rfl⟩
instance:FldI Tryz.prog 96 0 0:=⟨by kernel_rfl⟩
instance:FldI Tryz.prog 96 1 1:=⟨by kernel_rfl⟩
instance:FldI Tryz.prog 96 2 2:=⟨by kernel_rfl⟩
instance:FldI Tryz.prog 96 3 3:=⟨by kernel_rfl⟩
instance:FldI Tryz.prog 96 4 4:=⟨by kernel_rfl⟩
instance:FldI Tryz.prog 96 5 5:=⟨by kernel_rfl⟩
instance:AggI Tryz.prog 96 6:=⟨by kernel_rfl⟩
instance:FldI Tryz.prog 102 0 0:=⟨by kernel_rfl⟩
instance:FldI Tryz.prog 102 1 1:=⟨by kernel_rfl⟩
instance:AggI Tryz.prog 102 2:=⟨by kernel_rfl⟩
instance:FldI Tryz.prog 105 0 0:=⟨by kernel_rfl⟩
instance:FldI Tryz.prog 105 1 1:=⟨by kernel_rfl⟩
instance:AggI Tryz.prog 105 2:=⟨by kernel_rfl⟩
instance:FldI Tryz.prog 108 0 0:=⟨by kernel_rfl⟩
instance:FldI Tryz.prog 108 1 1:=⟨by kernel_rfl⟩
instance:FldI Tryz.prog 108 2 2:=⟨by kernel_rfl⟩
instance:AggI Tryz.prog 108 3:=⟨by kernel_rfl⟩
instance:FldI Tryz.prog 110 0 0:=⟨by kernel_rfl⟩
instance:FldI Tryz.prog 110 1 1:=⟨by kernel_rfl⟩
instance:AggI Tryz.prog 110 4:=⟨by kernel_rfl⟩
instance:FldI Tryz.prog 127 0 0:=⟨by kernel_rfl⟩
instance:FldI Tryz.prog 127 1 1:=⟨by kernel_rfl⟩
instance:FldI Tryz.prog 127 2 2:=⟨by kernel_rfl⟩
instance:AggI Tryz.prog 127 3:=⟨by kernel_rfl⟩
instance:FldI Tryz.prog 129 0 0:=⟨by kernel_rfl⟩
instance:FldI Tryz.prog 129 1 1:=⟨by kernel_rfl⟩
instance:AggI Tryz.prog 129 4:=⟨by kernel_rfl⟩
instance:FldI Tryz.prog 148 0 0:=⟨by kernel_rfl⟩
instance:FldI Tryz.prog 148 1 1:=⟨by kernel_rfl⟩
instance:FldI Tryz.prog 148 2 2:=⟨by kernel_rfl⟩
instance:FldI Tryz.prog 148 3 3:=⟨by kernel_rfl⟩
instance:FldI Tryz.prog 148 4 4:=⟨by kernel_rfl⟩
instance:AggI Tryz.prog 148 5:=⟨by kernel_rfl⟩
instance:FldI Tryz.prog 151 0 0:=⟨by kernel_rfl⟩
instance:FldI Tryz.prog 151 1 1:=⟨by kernel_rfl⟩
instance:AggI Tryz.prog 151 2:=⟨by kernel_rfl⟩
instance:FldI Tryz.prog 153 0 0:=⟨by kernel_rfl⟩
instance:FldI Tryz.prog 153 1 1:=⟨by kernel_rfl⟩
instance:AggI Tryz.prog 153 2:=⟨by kernel_rfl⟩
instance:FldI Tryz.prog 157 0 0:=⟨by kernel_rfl⟩
instance:FldI Tryz.prog 157 1 1:=⟨by kernel_rfl⟩
instance:AggI Tryz.prog 157 2:=⟨by kernel_rfl⟩
instance:FldI Tryz.prog 159 0 0:=⟨by kernel_rfl⟩
instance:FldI Tryz.prog 159 1 1:=⟨by kernel_rfl⟩
instance:FldI Tryz.prog 159 2 2:=⟨by kernel_rfl⟩
instance:FldI Tryz.prog 159 3 3:=⟨by kernel_rfl⟩
instance:FldI Tryz.prog 159 4 4:=⟨by kernel_rfl⟩
instance:AggI Tryz.prog 159 5:=⟨by kernel_rfl⟩
instance:OneI Tryz.prog 177:=⟨by kernel_rfl⟩
section
variable {ops:Array Oper}{Q:Exit→Act→World→Prop}{C:Ctx}{H H':List (Nat×Oper×Inf)}{i:Nat}{r:List Nat}{dr:Bool}
variable {tm:Nat→AV}{hp:Nat→Option Row}{gn L:Nat}{us:List Nat}
theorem o_fa {t:Nat}{ty:TypeId}{gd:Option (Nat×Bool)}{ps:String}{af:Array Edge}{S:TypeId}{f:Nat}{p:Operand}{i0 o0 off:Nat}[hF:FldI Tryz.prog S f off](h:Walk Tryz.prog ops Q C dr (keepH dr (i,(⟨some t,.fieldAddr S p f,ty,ps,af,gd⟩:Oper),⟨fpO (AS.ev ⟨tm,hp,gn,us,L⟩) (⟨some t,.fieldAddr S p f,ty,ps,af,gd⟩:Oper),[],[],.c (.pt i0 (o0+off))⟩) H) r ⟨upd tm t (.c (.pt i0 (o0+off))),hp,gn,us,L⟩)(hx:AS.ev ⟨tm,hp,gn,us,L⟩ p=.c (.pt i0 o0):=by exact rfl)(ht:Nat.blt t L=true:=by exact rfl)(hg:gw ops tm (⟨some t,.fieldAddr S p f,ty,ps,af,gd⟩:Oper)=some true:=by exact rfl)(hc:chk dr ops i (⟨some t,.fieldAddr S p f,ty,ps,af,gd⟩:Oper) ⟨fpO (AS.ev ⟨tm,hp,gn,us,L⟩) (⟨some t,.fieldAddr S p f,ty,ps,af,gd⟩:Oper),[],[],.c (.pt i0 (o0+off))⟩ H=true:=by first|(with_reducible exact zr1)|kernel_rfl):WalkO Tryz.prog ops Q C dr H i (⟨some t,.fieldAddr S p f,ty,ps,af,gd⟩:Oper) r ⟨tm,hp,gn,us,L⟩:=⟨fun hop=>zn5 h hop rfl ht hg (by show nop? (aFieldAddr _ S f (AS.ev ⟨tm,hp,gn,us,L⟩ p))=_;rw [hx,zz8 hF.h];rfl) hc⟩
theorem zp19 {t:Nat}{ty:TypeId}{gd:Option (Nat×Bool)}{ps:String}{af:Array Edge}{S:TypeId}{f:Nat}{p:Operand}{l:List AC}{o0 off:Nat}[hF:FldI Tryz.prog S f off](h:Walk Tryz.prog ops Q C dr (keepH dr (i,(⟨some t,.fieldAddr S p f,ty,ps,af,gd⟩:Oper),⟨fpO (AS.ev ⟨tm,hp,gn,us,L⟩) (⟨some t,.fieldAddr S p f,ty,ps,af,gd⟩:Oper),[],[],.c (.rp l (o0+off))⟩) H) r ⟨upd tm t (.c (.rp l (o0+off))),hp,gn,us,L⟩)(hx:AS.ev ⟨tm,hp,gn,us,L⟩ p=.c (.rp l o0):=by exact rfl)(ht:Nat.blt t L=true:=by exact rfl)(hg:gw ops tm (⟨some t,.fieldAddr S p f,ty,ps,af,gd⟩:Oper)=some true:=by exact rfl)(hc:chk dr ops i (⟨some t,.fieldAddr S p f,ty,ps,af,gd⟩:Oper) ⟨fpO (AS.ev ⟨tm,hp,gn,us,L⟩) (⟨some t,.fieldAddr S p f,ty,ps,af,gd⟩:Oper),[],[],.c (.rp l (o0+off))⟩ H=true:=by first|(with_reducible exact zr1)|kernel_rfl):WalkO Tryz.prog ops Q C dr H i (⟨some t,.fieldAddr S p f,ty,ps,af,gd⟩:Oper) r ⟨tm,hp,gn,us,L⟩:=⟨fun hop=>zn5 h hop rfl ht hg (by show nop? (aFieldAddr _ S f (AS.ev ⟨tm,hp,gn,us,L⟩ p))=_;rw [hx,za9 hF.h];rfl) hc⟩
theorem zx4 {t:Nat}{ty:TypeId}{gd:Option (Nat×Bool)}{ps:String}{af:Array Edge}{T:TypeId}{p:Operand}{i0 o0:Nat}{rw:Row}{c:AC}[hF:OneI Tryz.prog T](h:Walk Tryz.prog ops Q C dr (keepH dr (i,(⟨some t,.load T p,ty,ps,af,gd⟩:Oper),⟨fpO (AS.ev ⟨tm,hp,gn,us,L⟩) (⟨some t,.load T p,ty,ps,af,gd⟩:Oper),[],[],.c c⟩) H) r ⟨upd tm t (.c c),hp,gn,us,L⟩)(hx:AS.ev ⟨tm,hp,gn,us,L⟩ p=.c (.pt i0 o0):=by exact rfl)(hr:hp i0=some rw:=by exact rfl)(hcs:rw.cs[o0]? = some c:=by exact rfl)(hld:ld c=c:=by exact rfl)(ht:Nat.blt t L=true:=by exact rfl)(hg:gw ops tm (⟨some t,.load T p,ty,ps,af,gd⟩:Oper)=some true:=by exact rfl)(hc:chk dr ops i (⟨some t,.load T p,ty,ps,af,gd⟩:Oper) ⟨fpO (AS.ev ⟨tm,hp,gn,us,L⟩) (⟨some t,.load T p,ty,ps,af,gd⟩:Oper),[],[],.c c⟩ H=true:=by first|(with_reducible exact zr1)|kernel_rfl):WalkO Tryz.prog ops Q C dr H i (⟨some t,.load T p,ty,ps,af,gd⟩:Oper) r ⟨tm,hp,gn,us,L⟩:=⟨fun hop=>zn5 h hop rfl ht hg (by show nop? (aLoad _ T hp (AS.ev ⟨tm,hp,gn,us,L⟩ p))=_;rw [hx,zk17 hF.h hr hcs,hld];rfl) hc⟩
theorem zy6 {t:Nat}{ty:TypeId}{gd:Option (Nat×Bool)}{ps:String}{af:Array Edge}{T:TypeId}{p:Operand}{l:List AC}{o0:Nat}{c:AC}[hF:OneI Tryz.prog T](h:Walk Tryz.prog ops Q C dr (keepH dr (i,(⟨some t,.load T p,ty,ps,af,gd⟩:Oper),⟨fpO (AS.ev ⟨tm,hp,gn,us,L⟩) (⟨some t,.load T p,ty,ps,af,gd⟩:Oper),[],[],.c c⟩) H) r ⟨upd tm t (.c c),hp,gn,us,L⟩)(hx:AS.ev ⟨tm,hp,gn,us,L⟩ p=.c (.rp l o0):=by exact rfl)(hcs:l[o0]? = some c:=by exact rfl)(hld:ld c=c:=by exact rfl)(ht:Nat.blt t L=true:=by exact rfl)(hg:gw ops tm (⟨some t,.load T p,ty,ps,af,gd⟩:Oper)=some true:=by exact rfl)(hc:chk dr ops i (⟨some t,.load T p,ty,ps,af,gd⟩:Oper) ⟨fpO (AS.ev ⟨tm,hp,gn,us,L⟩) (⟨some t,.load T p,ty,ps,af,gd⟩:Oper),[],[],.c c⟩ H=true:=by first|(with_reducible exact zr1)|kernel_rfl):WalkO Tryz.prog ops Q C dr H i (⟨some t,.load T p,ty,ps,af,gd⟩:Oper) r ⟨tm,hp,gn,us,L⟩:=⟨fun hop=>zn5 h hop rfl ht hg (by show nop? (aLoad _ T hp (AS.ev ⟨tm,hp,gn,us,L⟩ p))=_;rw [hx,zo14 hF.h hcs,hld];rfl) hc⟩
theorem za23 {t:Nat}{ty:TypeId}{gd:Option (Nat×Bool)}{ps:String}{af:Array Edge}{T:TypeId}{p:Operand}{i0 n:Nat}{cs:List AC}{rT:TypeId}{rk rn:Nat}{rb:Bool}[hF:AggI Tryz.prog T n](h:Walk Tryz.prog ops Q C dr (keepH dr (i,(⟨some t,.load T p,ty,ps,af,gd⟩:Oper),⟨fpO (AS.ev ⟨tm,hp,gn,us,L⟩) (⟨some t,.load T p,ty,ps,af,gd⟩:Oper),[],[],.ag cs⟩) H) r ⟨upd tm t (.ag cs),hp,gn,us,L⟩)(hx:AS.ev ⟨tm,hp,gn,us,L⟩ p=.c (.pt i0 0):=by exact rfl)(hr:hp i0=some ⟨rT,rk,rn,rb,cs⟩:=by exact rfl)(hn:cs.length=n:=by exact rfl)(hld:cs.map ld=cs:=by exact rfl)(ht:Nat.blt t L=true:=by exact rfl)(hg:gw ops tm (⟨some t,.load T p,ty,ps,af,gd⟩:Oper)=some true:=by exact rfl)(hc:chk dr ops i (⟨some t,.load T p,ty,ps,af,gd⟩:Oper) ⟨fpO (AS.ev ⟨tm,hp,gn,us,L⟩) (⟨some t,.load T p,ty,ps,af,gd⟩:Oper),[],[],.ag cs⟩ H=true:=by first|(with_reducible exact zr1)|kernel_rfl):WalkO Tryz.prog ops Q C dr H i (⟨some t,.load T p,ty,ps,af,gd⟩:Oper) r ⟨tm,hp,gn,us,L⟩:=⟨fun hop=>zn5 h hop rfl ht hg (by show nop? (aLoad _ T hp (AS.ev ⟨tm,hp,gn,us,L⟩ p))=_;rw [hx,zl17 hF.h hr hn,hld];rfl) hc⟩
theorem zo20 {t:Nat}{ty:TypeId}{gd:Option (Nat×Bool)}{ps:String}{af:Array Edge}{T:TypeId}{p:Operand}{n:Nat}{cs:List AC}[hF:AggI Tryz.prog T n](h:Walk Tryz.prog ops Q C dr (keepH dr (i,(⟨some t,.load T p,ty,ps,af,gd⟩:Oper),⟨fpO (AS.ev ⟨tm,hp,gn,us,L⟩) (⟨some t,.load T p,ty,ps,af,gd⟩:Oper),[],[],.ag cs⟩) H) r ⟨upd tm t (.ag cs),hp,gn,us,L⟩)(hx:AS.ev ⟨tm,hp,gn,us,L⟩ p=.c (.rp cs 0):=by exact rfl)(hn:cs.length=n:=by exact rfl)(hld:cs.map ld=cs:=by exact rfl)(ht:Nat.blt t L=true:=by exact rfl)(hg:gw ops tm (⟨some t,.load T p,ty,ps,af,gd⟩:Oper)=some true:=by exact rfl)(hc:chk dr ops i (⟨some t,.load T p,ty,ps,af,gd⟩:Oper) ⟨fpO (AS.ev ⟨tm,hp,gn,us,L⟩) (⟨some t,.load T p,ty,ps,af,gd⟩:Oper),[],[],.ag cs⟩ H=true:=by first|(with_reducible exact zr1)|kernel_rfl):WalkO Tryz.prog ops Q C dr H i (⟨some t,.load T p,ty,ps,af,gd⟩:Oper) r ⟨tm,hp,gn,us,L⟩:=⟨fun hop=>zn5 h hop rfl ht hg (by show nop? (aLoad _ T hp (AS.ev ⟨tm,hp,gn,us,L⟩ p))=_;rw [hx,zp14 hF.h hn,hld];rfl) hc⟩
theorem zj22 {t:Nat}{ty:TypeId}{gd:Option (Nat×Bool)}{ps:String}{af:Array Edge}{T:TypeId}{y:Operand}{s:ByteArray}[hF:StrI Tryz.prog T](h:Walk Tryz.prog ops Q C dr (keepH dr (i,(⟨some t,.call ⟨.builtin .len,#[y],#[T]⟩,ty,ps,af,gd⟩:Oper),⟨fpO (AS.ev ⟨tm,hp,gn,us,L⟩) (⟨some t,.call ⟨.builtin .len,#[y],#[T]⟩,ty,ps,af,gd⟩:Oper),[],[],.c (.v (.int .i64 s.size))⟩) H) r ⟨upd tm t (.c (.v (.int .i64 s.size))),hp,gn,us,L⟩)(hx:AS.ev ⟨tm,hp,gn,us,L⟩ y=.c (.v (.string s)):=by exact rfl)(ht:Nat.blt t L=true:=by exact rfl)(hg:gw ops tm (⟨some t,.call ⟨.builtin .len,#[y],#[T]⟩,ty,ps,af,gd⟩:Oper)=some true:=by exact rfl)(hc:chk dr ops i (⟨some t,.call ⟨.builtin .len,#[y],#[T]⟩,ty,ps,af,gd⟩:Oper) ⟨fpO (AS.ev ⟨tm,hp,gn,us,L⟩) (⟨some t,.call ⟨.builtin .len,#[y],#[T]⟩,ty,ps,af,gd⟩:Oper),[],[],.c (.v (.int .i64 s.size))⟩ H=true:=by first|(with_reducible exact zr1)|kernel_rfl):WalkO Tryz.prog ops Q C dr H i (⟨some t,.call ⟨.builtin .len,#[y],#[T]⟩,ty,ps,af,gd⟩:Oper) r ⟨tm,hp,gn,us,L⟩:=⟨fun hop=>zn5 h hop rfl ht hg (zo19 (o:=(⟨some t,.call ⟨.builtin .len,#[y],#[T]⟩,ty,ps,af,gd⟩:Oper)) (hp:=hp) (id:=0) hF.h hx) hc⟩
theorem zp20 {t:Nat}{ty:TypeId}{gd:Option (Nat×Bool)}{ps:String}{af:Array Edge}{T:TypeId}{y:Operand}{n k:Nat}{l:List AC}[hF:SlcI Tryz.prog T](h:Walk Tryz.prog ops Q C dr (keepH dr (i,(⟨some t,.call ⟨.builtin .len,#[y],#[T]⟩,ty,ps,af,gd⟩:Oper),⟨fpO (AS.ev ⟨tm,hp,gn,us,L⟩) (⟨some t,.call ⟨.builtin .len,#[y],#[T]⟩,ty,ps,af,gd⟩:Oper),[],[],.c (.v (.int .i64 n))⟩) H) r ⟨upd tm t (.c (.v (.int .i64 n))),hp,gn,us,L⟩)(hx:AS.ev ⟨tm,hp,gn,us,L⟩ y=.c (.ro n k l):=by exact rfl)(ht:Nat.blt t L=true:=by exact rfl)(hg:gw ops tm (⟨some t,.call ⟨.builtin .len,#[y],#[T]⟩,ty,ps,af,gd⟩:Oper)=some true:=by exact rfl)(hc:chk dr ops i (⟨some t,.call ⟨.builtin .len,#[y],#[T]⟩,ty,ps,af,gd⟩:Oper) ⟨fpO (AS.ev ⟨tm,hp,gn,us,L⟩) (⟨some t,.call ⟨.builtin .len,#[y],#[T]⟩,ty,ps,af,gd⟩:Oper),[],[],.c (.v (.int .i64 n))⟩ H=true:=by first|(with_reducible exact zr1)|kernel_rfl):WalkO Tryz.prog ops Q C dr H i (⟨some t,.call ⟨.builtin .len,#[y],#[T]⟩,ty,ps,af,gd⟩:Oper) r ⟨tm,hp,gn,us,L⟩:=⟨fun hop=>zn5 h hop rfl ht hg (zz13 (o:=(⟨some t,.call ⟨.builtin .len,#[y],#[T]⟩,ty,ps,af,gd⟩:Oper)) (hp:=hp) (id:=0) hF.h (by rw [hx];rfl) (by rw [hx];rfl)) hc⟩
theorem zk22 {t:Nat}{ty:TypeId}{gd:Option (Nat×Bool)}{ps:String}{af:Array Edge}{T:TypeId}{y:Operand}{j n:Nat}[hF:SlcI Tryz.prog T](h:Walk Tryz.prog ops Q C dr (keepH dr (i,(⟨some t,.call ⟨.builtin .len,#[y],#[T]⟩,ty,ps,af,gd⟩:Oper),⟨fpO (AS.ev ⟨tm,hp,gn,us,L⟩) (⟨some t,.call ⟨.builtin .len,#[y],#[T]⟩,ty,ps,af,gd⟩:Oper),[],[],.c (.v (.int .i64 n))⟩) H) r ⟨upd tm t (.c (.v (.int .i64 n))),hp,gn,us,L⟩)(hx:AS.ev ⟨tm,hp,gn,us,L⟩ y=.c (.sl j n):=by exact rfl)(ht:Nat.blt t L=true:=by exact rfl)(hg:gw ops tm (⟨some t,.call ⟨.builtin .len,#[y],#[T]⟩,ty,ps,af,gd⟩:Oper)=some true:=by exact rfl)(hc:chk dr ops i (⟨some t,.call ⟨.builtin .len,#[y],#[T]⟩,ty,ps,af,gd⟩:Oper) ⟨fpO (AS.ev ⟨tm,hp,gn,us,L⟩) (⟨some t,.call ⟨.builtin .len,#[y],#[T]⟩,ty,ps,af,gd⟩:Oper),[],[],.c (.v (.int .i64 n))⟩ H=true:=by first|(with_reducible exact zr1)|kernel_rfl):WalkO Tryz.prog ops Q C dr H i (⟨some t,.call ⟨.builtin .len,#[y],#[T]⟩,ty,ps,af,gd⟩:Oper) r ⟨tm,hp,gn,us,L⟩:=⟨fun hop=>zn5 h hop rfl ht hg (zz13 (o:=(⟨some t,.call ⟨.builtin .len,#[y],#[T]⟩,ty,ps,af,gd⟩:Oper)) (hp:=hp) (id:=0) hF.h (by rw [hx];rfl) (by rw [hx];rfl)) hc⟩
end
section
variable {P:Program}{ops:Array Oper}{Q:Exit→Act→World→Prop}{C:Ctx}{H:List (Nat×Oper×Inf)}{i:Nat}{r:List Nat}{dr:Bool}{σ:AS}{ty:TypeId}{ps:String}{af:Array Edge}
theorem d_ca {t:Tmp}{fv:Operand}{as_:Array Operand}{ts:Array TypeId}{gd:Option (Nat×Bool)}(h:WalkO P ops Q C dr H i (⟨some t,.call ⟨.value fv,as_,ts⟩,ty,ps,af,gd⟩:Oper) r σ):WalkO P ops Q C dr H i (⟨some t,.call ⟨.value fv,as_,ts⟩,ty,ps,af,gd⟩:Oper) r σ:=h
theorem d_bi {t:Tmp}{b:Builtin}{as_:Array Operand}{ts:Array TypeId}{gd:Option (Nat×Bool)}(h:WalkO P ops Q C dr H i (⟨some t,.call ⟨.builtin b,as_,ts⟩,ty,ps,af,gd⟩:Oper) r σ):WalkO P ops Q C dr H i (⟨some t,.call ⟨.builtin b,as_,ts⟩,ty,ps,af,gd⟩:Oper) r σ:=h
theorem d_fa {t:Tmp}{S:TypeId}{f:Nat}{p:Operand}{gd:Option (Nat×Bool)}(h:WalkO P ops Q C dr H i (⟨some t,.fieldAddr S p f,ty,ps,af,gd⟩:Oper) r σ):WalkO P ops Q C dr H i (⟨some t,.fieldAddr S p f,ty,ps,af,gd⟩:Oper) r σ:=h
theorem d_ld {t:Tmp}{T:TypeId}{p:Operand}{gd:Option (Nat×Bool)}(h:WalkO P ops Q C dr H i (⟨some t,.load T p,ty,ps,af,gd⟩:Oper) r σ):WalkO P ops Q C dr H i (⟨some t,.load T p,ty,ps,af,gd⟩:Oper) r σ:=h
theorem d_st {T:TypeId}{p y:Operand}{gd:Option (Nat×Bool)}(h:WalkO P ops Q C dr H i (⟨none,.store T p y,ty,ps,af,gd⟩:Oper) r σ):WalkO P ops Q C dr H i (⟨none,.store T p y,ty,ps,af,gd⟩:Oper) r σ:=h
theorem d_ia {t:Tmp}{T:TypeId}{x y:Operand}{gd:Option (Nat×Bool)}(h:WalkO P ops Q C dr H i (⟨some t,.indexAddr T x y,ty,ps,af,gd⟩:Oper) r σ):WalkO P ops Q C dr H i (⟨some t,.indexAddr T x y,ty,ps,af,gd⟩:Oper) r σ:=h
theorem d_bb {t:Tmp}{T U:TypeId}{b:BinOp}{x y:Operand}{gd:Option (Nat×Bool)}(h:WalkO P ops Q C dr H i (⟨some t,.binOp b T x y U,ty,ps,af,gd⟩:Oper) r σ):WalkO P ops Q C dr H i (⟨some t,.binOp b T x y U,ty,ps,af,gd⟩:Oper) r σ:=h
theorem d_mv {t:Tmp}{x:Operand}{gd:Option (Nat×Bool)}(h:WalkO P ops Q C dr H i (⟨some t,.move x,ty,ps,af,gd⟩:Oper) r σ):WalkO P ops Q C dr H i (⟨some t,.move x,ty,ps,af,gd⟩:Oper) r σ:=h
theorem d_as {t:Tmp}{x:Operand}{gd:Option (Nat×Bool)}(h:WalkO P ops Q C dr H i (⟨some t,.assign x,ty,ps,af,gd⟩:Oper) r σ):WalkO P ops Q C dr H i (⟨some t,.assign x,ty,ps,af,gd⟩:Oper) r σ:=h
theorem d_wo {o:Oper}(h:WalkO P ops Q C dr H i o r σ):WalkO P ops Q C dr H i o r σ:=h
theorem d_w {l:List Nat}(h:Walk P ops Q C dr H l σ):Walk P ops Q C dr H l σ:=h
end
end Go.Proofs.YtfemkmnkofgaaaaGreat
