/- The machine's rules for fields, loads and lengths, over facts of the types that are worked out once. -/
import Derived.Test.YtnjfnhoipnbpeaaGreatDoorTxtPG
namespace Go.Proofs.YtnjfnhoipnbpeaaGreatDoor
open Go.RowKit
set_option maxRecDepth 100000
section
variable {P:Program}{S T:TypeId}{f off n:Nat}
def fldB (P:Program)(S:TypeId)(f off:Nat):Bool:=match fldOf P S f with|some fl=>(P.info? fl.type).isSome&&!(Nat.beq (P.cellsOf fl.type) 0)&&Nat.beq fl.offset off|none=>false
class FldI (P:Program) (S:TypeId) (f:Nat) (off:outParam Nat):Prop where
 h:fldB P S f off=true
def oneTB (P:Program)(T:TypeId):Bool:=match P.underlying T,P.info? T with|some d,some i=>Nat.beq i.size 1&&!(aggD d)&&Nat.beq (P.cellsOf T) 1|_,_=>false
class OneI (P:Program) (T:TypeId):Prop where
 h:oneTB P T=true
def aggTB (P:Program)(T:TypeId)(n:Nat):Bool:=match P.underlying T,P.info? T with|some d,some i=>Nat.beq i.size n&&aggD d&&Nat.beq (P.cellsOf T) n|_,_=>false
class AggI (P:Program) (T:TypeId) (n:outParam Nat):Prop where
 h:aggTB P T n=true
class StrI (P:Program) (T:TypeId):Prop where
 h:(match P.underlying T with|some .string=>true|_=>false)=true
class SlcI (P:Program) (T:TypeId):Prop where
 h:(match P.underlying T with|some (.slice _)=>true|_=>false)=true
theorem fld_to (h:fldB P S f off=true):∃fl,fldOf P S f=some fl∧((P.info? fl.type).isSome=true∧P.cellsOf fl.type≠0)∧fl.offset=off:=by
 unfold fldB at h
 split at h
 ·rename_i fl e
  simp only [Bool.and_eq_true,Bool.not_eq_true'] at h
  refine⟨fl,e,⟨h.1.1,fun h0=>?_⟩,Nat.eq_of_beq_eq_true h.2⟩
  rw [h0] at h;cases h.1.2
 ·cases h
theorem zq13 (h:fldB P S f off=true){i o:Nat}:aFieldAddr P S f (.c (.pt i o))=some (.c (.pt i (o+off))):=by
 obtain⟨fl,h1,h2,rfl⟩:=fld_to h
 unfold aFieldAddr
 rw [h1]
 simp only [if_pos h2]
theorem zr13 (h:fldB P S f off=true){l:List AC}{o:Nat}:aFieldAddr P S f (.c (.rp l o))=some (.c (.rp l (o+off))):=by
 obtain⟨fl,h1,h2,rfl⟩:=fld_to h
 unfold aFieldAddr
 rw [h1]
 simp only [if_pos h2]
theorem one_to (h:oneTB P T=true):P.cellsOf T=1∧∀c,mkAV P T [c]=some (.c (ld c)):=by
 unfold oneTB at h
 split at h
 ·rename_i d i e1 e2
  simp only [Bool.and_eq_true,Bool.not_eq_true'] at h
  refine⟨Nat.eq_of_beq_eq_true h.2,fun c=>?_⟩
  unfold mkAV
  rw [e1,e2]
  simp only [h.1.2,List.length_cons,List.length_nil,Nat.eq_of_beq_eq_true h.1.1,if_true,Bool.false_eq_true,if_false]
 ·cases h
theorem agg_to (h:aggTB P T n=true):P.cellsOf T=n∧∀cs:List AC,cs.length=n→mkAV P T cs=some (.ag (cs.map ld)):=by
 unfold aggTB at h
 split at h
 ·rename_i d i e1 e2
  simp only [Bool.and_eq_true] at h
  refine⟨Nat.eq_of_beq_eq_true h.2,fun cs hl=>?_⟩
  unfold mkAV
  rw [e1,e2]
  simp only [h.1.2,hl,Nat.eq_of_beq_eq_true h.1.1,if_true]
 ·cases h
theorem zl19 {l:List AC}{o:Nat}{c:AC}(h:l[o]? = some c):subL l o 1=[c]:=by
 unfold subL
 obtain⟨ho,rfl⟩:=List.getElem?_eq_some_iff.1 h
 rw [List.drop_eq_getElem_cons ho]
 rfl
theorem zm19 {l:List AC}{n:Nat}(h:l.length=n):subL l 0 n=l:=by
 unfold subL
 rw [List.drop_zero,List.take_of_length_le (by omega)]
theorem aLoad_one {hp:Nat→Option Row}(h:oneTB P T=true){i o:Nat}{rw_:Row}{c:AC}(hr:hp i=some rw_)(hc:rw_.cs[o]? = some c):aLoad P T hp (.c (.pt i o))=some (.c (ld c)):=by
 obtain⟨h1,h2⟩:=one_to h
 unfold aLoad
 simp only [hr,Option.bind_some,h1,zl19 hc,h2]
theorem zf21 {hp:Nat→Option Row}(h:oneTB P T=true){l:List AC}{o:Nat}{c:AC}(hc:l[o]? = some c):aLoad P T hp (.c (.rp l o))=some (.c (ld c)):=by
 obtain⟨h1,h2⟩:=one_to h
 unfold aLoad
 simp only [h1,zl19 hc,h2]
theorem aLoad_agg {hp:Nat→Option Row}(h:aggTB P T n=true){i:Nat}{rT:TypeId}{rk rn:Nat}{rb:Bool}{cs:List AC}(hr:hp i=some ⟨rT,rk,rn,rb,cs⟩)(hn:cs.length=n):aLoad P T hp (.c (.pt i 0))=some (.ag (cs.map ld)):=by
 obtain⟨h1,h2⟩:=agg_to h
 unfold aLoad
 simp only [hr,Option.bind_some,h1,zm19 hn,h2 _ hn]
theorem zg21 {hp:Nat→Option Row}(h:aggTB P T n=true){cs:List AC}(hn:cs.length=n):aLoad P T hp (.c (.rp cs 0))=some (.ag (cs.map ld)):=by
 obtain⟨h1,h2⟩:=agg_to h
 unfold aLoad
 simp only [h1,zm19 hn,h2 _ hn]
theorem effLen_s {o:Oper}{ev:Operand→AV}{hp:Nat→Option Row}{id:Nat}{y:Operand}{s:ByteArray}(h:(match P.underlying T with|some .string=>true|_=>false)=true)(hx:ev y=.c (.v (.string s))):EffCallD P o ev hp id ⟨.builtin .len,#[y],#[T]⟩=some (.c (.v (.int .i64 s.size)),.nop):=by
 show (if lenOk P T (ev y)=true then nop? (aLen (ev y)) else none)=_
 have:lenOk P T (ev y)=true:=by
  unfold lenOk
  rw [hx]
  split at h
  ·rename_i e;rw [e];rfl
  ·cases h
 rw [if_pos this,hx]
 rfl
theorem zn19 {o:Oper}{ev:Operand→AV}{hp:Nat→Option Row}{id:Nat}{y:Operand}{n:Nat}(h:(match P.underlying T with|some (.slice _)=>true|_=>false)=true)(hx:isStr (ev y)=false)(hl:aLen (ev y)=some (.c (.v (.int .i64 n)))):EffCallD P o ev hp id ⟨.builtin .len,#[y],#[T]⟩=some (.c (.v (.int .i64 n)),.nop):=by
 show (if lenOk P T (ev y)=true then nop? (aLen (ev y)) else none)=_
 have:lenOk P T (ev y)=true:=by
  unfold lenOk
  rw [hx]
  split at h
  ·rename_i e;rw [e];rfl
  ·cases h
 rw [if_pos this,hl]
 rfl
end
instance:OneI Tryz.prog 3:=⟨by kernel_rfl⟩
instance:OneI Tryz.prog 4:=⟨by kernel_rfl⟩
instance:OneI Tryz.prog 5:=⟨by kernel_rfl⟩
instance:OneI Tryz.prog 9:=⟨by kernel_rfl⟩
instance:StrI Tryz.prog 9:=⟨by kernel_rfl⟩
instance:OneI Tryz.prog 15:=⟨by kernel_rfl⟩
instance:OneI Tryz.prog 16:=⟨by kernel_rfl⟩
instance:OneI Tryz.prog 17:=⟨by kernel_rfl⟩
instance:OneI Tryz.prog 22:=⟨by kernel_rfl⟩
instance:SlcI Tryz.prog 22:=⟨by kernel_rfl⟩
instance:OneI Tryz.prog 23:=⟨by kernel_rfl⟩
instance:SlcI Tryz.prog 23:=⟨by kernel_rfl⟩
instance:FldI Tryz.prog 25 0 0:=⟨by kernel_rfl⟩
instance:FldI Tryz.prog 25 1 1:=⟨by kernel_rfl⟩
instance:AggI Tryz.prog 25 2:=⟨by kernel_rfl⟩
instance:OneI Tryz.prog 28:=⟨by kernel_rfl⟩
instance:SlcI Tryz.prog 28:=⟨by kernel_rfl⟩
instance:OneI Tryz.prog 29:=⟨by kernel_rfl⟩
instance:SlcI Tryz.prog 29:=⟨by kernel_rfl⟩
instance:FldI Tryz.prog 31 0 0:=⟨by kernel_rfl⟩
instance:FldI Tryz.prog 31 1 1:=⟨by kernel_rfl⟩
instance:AggI Tryz.prog 31 2:=⟨by kernel_rfl⟩
instance:OneI Tryz.prog 38:=⟨by kernel_rfl⟩
instance:SlcI Tryz.prog 38:=⟨by kernel_rfl⟩
instance:OneI Tryz.prog 39:=⟨by kernel_rfl⟩
instance:SlcI Tryz.prog 39:=⟨by kernel_rfl⟩
instance:FldI Tryz.prog 41 0 0:=⟨by kernel_rfl⟩
instance:FldI Tryz.prog 41 1 1:=⟨by kernel_rfl⟩
instance:FldI Tryz.prog 41 2 2:=⟨by kernel_rfl⟩
instance:AggI Tryz.prog 41 3:=⟨by kernel_rfl⟩
instance:OneI Tryz.prog 43:=⟨by kernel_rfl⟩
instance:SlcI Tryz.prog 43:=⟨by kernel_rfl⟩
instance:FldI Tryz.prog 45 0 0:=⟨by kernel_rfl⟩
instance:FldI Tryz.prog 45 1 1:=⟨by kernel_rfl⟩
instance:FldI Tryz.prog 45 2 2:=⟨by kernel_rfl⟩
instance:FldI Tryz.prog 45 3 3:=⟨by kernel_rfl⟩
instance:AggI Tryz.prog 45 4:=⟨by kernel_rfl⟩
instance:FldI Tryz.prog 47 0 0:=⟨by kernel_rfl⟩
instance:FldI Tryz.prog 47 1 1:=⟨by kernel_rfl⟩
instance:FldI Tryz.prog 47 2 5:=⟨by kernel_rfl⟩
instance:AggI Tryz.prog 47 6:=⟨by kernel_rfl⟩
instance:OneI Tryz.prog 55:=⟨by kernel_rfl⟩
instance:SlcI Tryz.prog 55:=⟨by kernel_rfl⟩
instance:FldI Tryz.prog 57 0 0:=⟨by kernel_rfl⟩
instance:FldI Tryz.prog 57 1 1:=⟨by kernel_rfl⟩
instance:FldI Tryz.prog 57 2 2:=⟨by kernel_rfl⟩
instance:FldI Tryz.prog 57 3 3:=⟨by kernel_rfl⟩
instance:AggI Tryz.prog 57 4:=⟨by kernel_rfl⟩
instance:OneI Tryz.prog 58:=⟨by kernel_rfl⟩
instance:SlcI Tryz.prog 58:=⟨by kernel_rfl⟩
instance:FldI Tryz.prog 60 0 0:=⟨by kernel_rfl⟩
instance:FldI Tryz.prog 60 1 1:=⟨by kernel_rfl⟩
instance:FldI Tryz.prog 60 2 5:=⟨by kernel_rfl⟩
instance:AggI Tryz.prog 60 6:=⟨by kernel_rfl⟩
instance:FldI Tryz.prog 63 0 0:=⟨by kernel_rfl⟩
instance:FldI Tryz.prog 63 1 1:=⟨by kernel_rfl⟩
instance:FldI Tryz.prog 63 2 2:=⟨by kernel_rfl⟩
instance:AggI Tryz.prog 63 3:=⟨by kernel_rfl⟩
instance:FldI Tryz.prog 71 0 0:=⟨by kernel_rfl⟩
instance:FldI Tryz.prog 71 1 1:=⟨by kernel_rfl⟩
instance:FldI Tryz.prog 71 2 2:=⟨by kernel_rfl⟩
instance:FldI Tryz.prog 71 3 3:=⟨by kernel_rfl⟩
instance:FldI Tryz.prog 71 4 4:=⟨by kernel_rfl⟩
instance:FldI Tryz.prog 71 5 5:=⟨by kernel_rfl⟩
instance:AggI Tryz.prog 71 6:=⟨by kernel_rfl⟩
instance:OneI Tryz.prog 78:=⟨by kernel_rfl⟩
instance:OneI Tryz.prog 79:=⟨by kernel_rfl⟩
instance:SlcI Tryz.prog 79:=⟨by kernel_rfl⟩
instance:OneI Tryz.prog 105:=⟨by kernel_rfl⟩
instance:FldI Tryz.prog 111 0 0:=⟨by kernel_rfl⟩
instance:FldI Tryz.prog 111 1 1:=⟨by kernel_rfl⟩
instance:FldI Tryz.prog 111 2 2:=⟨by kernel_rfl⟩
instance:FldI Tryz.prog 111 3 3:=⟨by kernel_rfl⟩
instance:FldI Tryz.prog 111 4 4:=⟨by kernel_rfl⟩
instance:FldI Tryz.prog 111 5 5:=⟨by kernel_rfl⟩
instance:AggI Tryz.prog 111 6:=⟨by kernel_rfl⟩
instance:OneI Tryz.prog 127:=⟨by kernel_rfl⟩
instance:SlcI Tryz.prog 127:=⟨by kernel_rfl⟩
instance:OneI Tryz.prog 138:=⟨by kernel_rfl⟩
instance:SlcI Tryz.prog 138:=⟨by kernel_rfl⟩
instance:FldI Tryz.prog 140 0 0:=⟨by kernel_rfl⟩
instance:FldI Tryz.prog 140 1 1:=⟨by kernel_rfl⟩
instance:FldI Tryz.prog 140 2 2:=⟨by kernel_rfl⟩
instance:AggI Tryz.prog 140 3:=⟨by kernel_rfl⟩
instance:OneI Tryz.prog 150:=⟨by kernel_rfl⟩
instance:FldI Tryz.prog 152 0 0:=⟨by kernel_rfl⟩
instance:FldI Tryz.prog 152 1 1:=⟨by kernel_rfl⟩
instance:FldI Tryz.prog 152 2 2:=⟨by kernel_rfl⟩
instance:FldI Tryz.prog 152 3 3:=⟨by kernel_rfl⟩
instance:AggI Tryz.prog 152 4:=⟨by kernel_rfl⟩
instance:OneI Tryz.prog 155:=⟨by kernel_rfl⟩
instance:FldI Tryz.prog 157 0 0:=⟨by kernel_rfl⟩
instance:FldI Tryz.prog 157 1 1:=⟨by kernel_rfl⟩
instance:FldI Tryz.prog 157 2 2:=⟨by kernel_rfl⟩
instance:FldI Tryz.prog 157 3 3:=⟨by kernel_rfl⟩
instance:AggI Tryz.prog 157 4:=⟨by kernel_rfl⟩
instance:OneI Tryz.prog 169:=⟨by kernel_rfl⟩
instance:SlcI Tryz.prog 169:=⟨by kernel_rfl⟩
section
variable {ops:Array Oper}{Q:Exit→Act→World→Prop}{C:Ctx}{H H':List (Nat×Oper×Inf)}{i:Nat}{r:List Nat}{dr:Bool}
variable {tm:Nat→AV}{hp:Nat→Option Row}{gn L:Nat}{us:List Nat}
theorem o_fa {t:Nat}{ty:TypeId}{gd:Option (Nat×Bool)}{ps:String}{af:Array Edge}{S:TypeId}{f:Nat}{p:Operand}{i0 o0 off:Nat}[hF:FldI Tryz.prog S f off](h:Walk Tryz.prog ops Q C dr (keepH dr (i,(⟨some t,.fieldAddr S p f,ty,ps,af,gd⟩:Oper),⟨fpO (AS.ev ⟨tm,hp,gn,us,L⟩) (⟨some t,.fieldAddr S p f,ty,ps,af,gd⟩:Oper),[],[],.c (.pt i0 (o0+off))⟩) H) r ⟨upd tm t (.c (.pt i0 (o0+off))),hp,gn,us,L⟩)(hx:AS.ev ⟨tm,hp,gn,us,L⟩ p=.c (.pt i0 o0):=by exact rfl)(ht:Nat.blt t L=true:=by exact rfl)(hg:gw ops tm (⟨some t,.fieldAddr S p f,ty,ps,af,gd⟩:Oper)=some true:=by exact rfl)(hc:chk dr ops i (⟨some t,.fieldAddr S p f,ty,ps,af,gd⟩:Oper) ⟨fpO (AS.ev ⟨tm,hp,gn,us,L⟩) (⟨some t,.fieldAddr S p f,ty,ps,af,gd⟩:Oper),[],[],.c (.pt i0 (o0+off))⟩ H=true:=by first|(with_reducible exact zj2)|kernel_rfl):WalkO Tryz.prog ops Q C dr H i (⟨some t,.fieldAddr S p f,ty,ps,af,gd⟩:Oper) r ⟨tm,hp,gn,us,L⟩:=⟨fun hop=>zm2 h hop rfl ht hg (by show nop? (aFieldAddr _ S f (AS.ev ⟨tm,hp,gn,us,L⟩ p))=_;rw [hx,zq13 hF.h];rfl) hc⟩
theorem o_far {t:Nat}{ty:TypeId}{gd:Option (Nat×Bool)}{ps:String}{af:Array Edge}{S:TypeId}{f:Nat}{p:Operand}{l:List AC}{o0 off:Nat}[hF:FldI Tryz.prog S f off](h:Walk Tryz.prog ops Q C dr (keepH dr (i,(⟨some t,.fieldAddr S p f,ty,ps,af,gd⟩:Oper),⟨fpO (AS.ev ⟨tm,hp,gn,us,L⟩) (⟨some t,.fieldAddr S p f,ty,ps,af,gd⟩:Oper),[],[],.c (.rp l (o0+off))⟩) H) r ⟨upd tm t (.c (.rp l (o0+off))),hp,gn,us,L⟩)(hx:AS.ev ⟨tm,hp,gn,us,L⟩ p=.c (.rp l o0):=by exact rfl)(ht:Nat.blt t L=true:=by exact rfl)(hg:gw ops tm (⟨some t,.fieldAddr S p f,ty,ps,af,gd⟩:Oper)=some true:=by exact rfl)(hc:chk dr ops i (⟨some t,.fieldAddr S p f,ty,ps,af,gd⟩:Oper) ⟨fpO (AS.ev ⟨tm,hp,gn,us,L⟩) (⟨some t,.fieldAddr S p f,ty,ps,af,gd⟩:Oper),[],[],.c (.rp l (o0+off))⟩ H=true:=by first|(with_reducible exact zj2)|kernel_rfl):WalkO Tryz.prog ops Q C dr H i (⟨some t,.fieldAddr S p f,ty,ps,af,gd⟩:Oper) r ⟨tm,hp,gn,us,L⟩:=⟨fun hop=>zm2 h hop rfl ht hg (by show nop? (aFieldAddr _ S f (AS.ev ⟨tm,hp,gn,us,L⟩ p))=_;rw [hx,zr13 hF.h];rfl) hc⟩
theorem zp3 {t:Nat}{ty:TypeId}{gd:Option (Nat×Bool)}{ps:String}{af:Array Edge}{T:TypeId}{p:Operand}{i0 o0:Nat}{rw:Row}{c:AC}[hF:OneI Tryz.prog T](h:Walk Tryz.prog ops Q C dr (keepH dr (i,(⟨some t,.load T p,ty,ps,af,gd⟩:Oper),⟨fpO (AS.ev ⟨tm,hp,gn,us,L⟩) (⟨some t,.load T p,ty,ps,af,gd⟩:Oper),[],[],.c c⟩) H) r ⟨upd tm t (.c c),hp,gn,us,L⟩)(hx:AS.ev ⟨tm,hp,gn,us,L⟩ p=.c (.pt i0 o0):=by exact rfl)(hr:hp i0=some rw:=by exact rfl)(hcs:rw.cs[o0]? = some c:=by exact rfl)(hld:ld c=c:=by exact rfl)(ht:Nat.blt t L=true:=by exact rfl)(hg:gw ops tm (⟨some t,.load T p,ty,ps,af,gd⟩:Oper)=some true:=by exact rfl)(hc:chk dr ops i (⟨some t,.load T p,ty,ps,af,gd⟩:Oper) ⟨fpO (AS.ev ⟨tm,hp,gn,us,L⟩) (⟨some t,.load T p,ty,ps,af,gd⟩:Oper),[],[],.c c⟩ H=true:=by first|(with_reducible exact zj2)|kernel_rfl):WalkO Tryz.prog ops Q C dr H i (⟨some t,.load T p,ty,ps,af,gd⟩:Oper) r ⟨tm,hp,gn,us,L⟩:=⟨fun hop=>zm2 h hop rfl ht hg (by show nop? (aLoad _ T hp (AS.ev ⟨tm,hp,gn,us,L⟩ p))=_;rw [hx,aLoad_one hF.h hr hcs,hld];rfl) hc⟩
theorem zo19 {t:Nat}{ty:TypeId}{gd:Option (Nat×Bool)}{ps:String}{af:Array Edge}{T:TypeId}{p:Operand}{l:List AC}{o0:Nat}{c:AC}[hF:OneI Tryz.prog T](h:Walk Tryz.prog ops Q C dr (keepH dr (i,(⟨some t,.load T p,ty,ps,af,gd⟩:Oper),⟨fpO (AS.ev ⟨tm,hp,gn,us,L⟩) (⟨some t,.load T p,ty,ps,af,gd⟩:Oper),[],[],.c c⟩) H) r ⟨upd tm t (.c c),hp,gn,us,L⟩)(hx:AS.ev ⟨tm,hp,gn,us,L⟩ p=.c (.rp l o0):=by exact rfl)(hcs:l[o0]? = some c:=by exact rfl)(hld:ld c=c:=by exact rfl)(ht:Nat.blt t L=true:=by exact rfl)(hg:gw ops tm (⟨some t,.load T p,ty,ps,af,gd⟩:Oper)=some true:=by exact rfl)(hc:chk dr ops i (⟨some t,.load T p,ty,ps,af,gd⟩:Oper) ⟨fpO (AS.ev ⟨tm,hp,gn,us,L⟩) (⟨some t,.load T p,ty,ps,af,gd⟩:Oper),[],[],.c c⟩ H=true:=by first|(with_reducible exact zj2)|kernel_rfl):WalkO Tryz.prog ops Q C dr H i (⟨some t,.load T p,ty,ps,af,gd⟩:Oper) r ⟨tm,hp,gn,us,L⟩:=⟨fun hop=>zm2 h hop rfl ht hg (by show nop? (aLoad _ T hp (AS.ev ⟨tm,hp,gn,us,L⟩ p))=_;rw [hx,zf21 hF.h hcs,hld];rfl) hc⟩
theorem o_lda {t:Nat}{ty:TypeId}{gd:Option (Nat×Bool)}{ps:String}{af:Array Edge}{T:TypeId}{p:Operand}{i0 n:Nat}{cs:List AC}{rT:TypeId}{rk rn:Nat}{rb:Bool}[hF:AggI Tryz.prog T n](h:Walk Tryz.prog ops Q C dr (keepH dr (i,(⟨some t,.load T p,ty,ps,af,gd⟩:Oper),⟨fpO (AS.ev ⟨tm,hp,gn,us,L⟩) (⟨some t,.load T p,ty,ps,af,gd⟩:Oper),[],[],.ag cs⟩) H) r ⟨upd tm t (.ag cs),hp,gn,us,L⟩)(hx:AS.ev ⟨tm,hp,gn,us,L⟩ p=.c (.pt i0 0):=by exact rfl)(hr:hp i0=some ⟨rT,rk,rn,rb,cs⟩:=by exact rfl)(hn:cs.length=n:=by exact rfl)(hld:cs.map ld=cs:=by exact rfl)(ht:Nat.blt t L=true:=by exact rfl)(hg:gw ops tm (⟨some t,.load T p,ty,ps,af,gd⟩:Oper)=some true:=by exact rfl)(hc:chk dr ops i (⟨some t,.load T p,ty,ps,af,gd⟩:Oper) ⟨fpO (AS.ev ⟨tm,hp,gn,us,L⟩) (⟨some t,.load T p,ty,ps,af,gd⟩:Oper),[],[],.ag cs⟩ H=true:=by first|(with_reducible exact zj2)|kernel_rfl):WalkO Tryz.prog ops Q C dr H i (⟨some t,.load T p,ty,ps,af,gd⟩:Oper) r ⟨tm,hp,gn,us,L⟩:=⟨fun hop=>zm2 h hop rfl ht hg (by show nop? (aLoad _ T hp (AS.ev ⟨tm,hp,gn,us,L⟩ p))=_;rw [hx,aLoad_agg hF.h hr hn,hld];rfl) hc⟩
theorem zs10 {t:Nat}{ty:TypeId}{gd:Option (Nat×Bool)}{ps:String}{af:Array Edge}{T:TypeId}{p:Operand}{n:Nat}{cs:List AC}[hF:AggI Tryz.prog T n](h:Walk Tryz.prog ops Q C dr (keepH dr (i,(⟨some t,.load T p,ty,ps,af,gd⟩:Oper),⟨fpO (AS.ev ⟨tm,hp,gn,us,L⟩) (⟨some t,.load T p,ty,ps,af,gd⟩:Oper),[],[],.ag cs⟩) H) r ⟨upd tm t (.ag cs),hp,gn,us,L⟩)(hx:AS.ev ⟨tm,hp,gn,us,L⟩ p=.c (.rp cs 0):=by exact rfl)(hn:cs.length=n:=by exact rfl)(hld:cs.map ld=cs:=by exact rfl)(ht:Nat.blt t L=true:=by exact rfl)(hg:gw ops tm (⟨some t,.load T p,ty,ps,af,gd⟩:Oper)=some true:=by exact rfl)(hc:chk dr ops i (⟨some t,.load T p,ty,ps,af,gd⟩:Oper) ⟨fpO (AS.ev ⟨tm,hp,gn,us,L⟩) (⟨some t,.load T p,ty,ps,af,gd⟩:Oper),[],[],.ag cs⟩ H=true:=by first|(with_reducible exact zj2)|kernel_rfl):WalkO Tryz.prog ops Q C dr H i (⟨some t,.load T p,ty,ps,af,gd⟩:Oper) r ⟨tm,hp,gn,us,L⟩:=⟨fun hop=>zm2 h hop rfl ht hg (by show nop? (aLoad _ T hp (AS.ev ⟨tm,hp,gn,us,L⟩ p))=_;rw [hx,zg21 hF.h hn,hld];rfl) hc⟩
theorem zr5 {t:Nat}{ty:TypeId}{gd:Option (Nat×Bool)}{ps:String}{af:Array Edge}{T:TypeId}{y:Operand}{s:ByteArray}[hF:StrI Tryz.prog T](h:Walk Tryz.prog ops Q C dr (keepH dr (i,(⟨some t,.call ⟨.builtin .len,#[y],#[T]⟩,ty,ps,af,gd⟩:Oper),⟨fpO (AS.ev ⟨tm,hp,gn,us,L⟩) (⟨some t,.call ⟨.builtin .len,#[y],#[T]⟩,ty,ps,af,gd⟩:Oper),[],[],.c (.v (.int .i64 s.size))⟩) H) r ⟨upd tm t (.c (.v (.int .i64 s.size))),hp,gn,us,L⟩)(hx:AS.ev ⟨tm,hp,gn,us,L⟩ y=.c (.v (.string s)):=by exact rfl)(ht:Nat.blt t L=true:=by exact rfl)(hg:gw ops tm (⟨some t,.call ⟨.builtin .len,#[y],#[T]⟩,ty,ps,af,gd⟩:Oper)=some true:=by exact rfl)(hc:chk dr ops i (⟨some t,.call ⟨.builtin .len,#[y],#[T]⟩,ty,ps,af,gd⟩:Oper) ⟨fpO (AS.ev ⟨tm,hp,gn,us,L⟩) (⟨some t,.call ⟨.builtin .len,#[y],#[T]⟩,ty,ps,af,gd⟩:Oper),[],[],.c (.v (.int .i64 s.size))⟩ H=true:=by first|(with_reducible exact zj2)|kernel_rfl):WalkO Tryz.prog ops Q C dr H i (⟨some t,.call ⟨.builtin .len,#[y],#[T]⟩,ty,ps,af,gd⟩:Oper) r ⟨tm,hp,gn,us,L⟩:=⟨fun hop=>zm2 h hop rfl ht hg (effLen_s (o:=(⟨some t,.call ⟨.builtin .len,#[y],#[T]⟩,ty,ps,af,gd⟩:Oper)) (hp:=hp) (id:=0) hF.h hx) hc⟩
theorem o_lenr {t:Nat}{ty:TypeId}{gd:Option (Nat×Bool)}{ps:String}{af:Array Edge}{T:TypeId}{y:Operand}{n k:Nat}{l:List AC}[hF:SlcI Tryz.prog T](h:Walk Tryz.prog ops Q C dr (keepH dr (i,(⟨some t,.call ⟨.builtin .len,#[y],#[T]⟩,ty,ps,af,gd⟩:Oper),⟨fpO (AS.ev ⟨tm,hp,gn,us,L⟩) (⟨some t,.call ⟨.builtin .len,#[y],#[T]⟩,ty,ps,af,gd⟩:Oper),[],[],.c (.v (.int .i64 n))⟩) H) r ⟨upd tm t (.c (.v (.int .i64 n))),hp,gn,us,L⟩)(hx:AS.ev ⟨tm,hp,gn,us,L⟩ y=.c (.ro n k l):=by exact rfl)(ht:Nat.blt t L=true:=by exact rfl)(hg:gw ops tm (⟨some t,.call ⟨.builtin .len,#[y],#[T]⟩,ty,ps,af,gd⟩:Oper)=some true:=by exact rfl)(hc:chk dr ops i (⟨some t,.call ⟨.builtin .len,#[y],#[T]⟩,ty,ps,af,gd⟩:Oper) ⟨fpO (AS.ev ⟨tm,hp,gn,us,L⟩) (⟨some t,.call ⟨.builtin .len,#[y],#[T]⟩,ty,ps,af,gd⟩:Oper),[],[],.c (.v (.int .i64 n))⟩ H=true:=by first|(with_reducible exact zj2)|kernel_rfl):WalkO Tryz.prog ops Q C dr H i (⟨some t,.call ⟨.builtin .len,#[y],#[T]⟩,ty,ps,af,gd⟩:Oper) r ⟨tm,hp,gn,us,L⟩:=⟨fun hop=>zm2 h hop rfl ht hg (zn19 (o:=(⟨some t,.call ⟨.builtin .len,#[y],#[T]⟩,ty,ps,af,gd⟩:Oper)) (hp:=hp) (id:=0) hF.h (by rw [hx];rfl) (by rw [hx];rfl)) hc⟩
theorem o_lenl {t:Nat}{ty:TypeId}{gd:Option (Nat×Bool)}{ps:String}{af:Array Edge}{T:TypeId}{y:Operand}{j n:Nat}[hF:SlcI Tryz.prog T](h:Walk Tryz.prog ops Q C dr (keepH dr (i,(⟨some t,.call ⟨.builtin .len,#[y],#[T]⟩,ty,ps,af,gd⟩:Oper),⟨fpO (AS.ev ⟨tm,hp,gn,us,L⟩) (⟨some t,.call ⟨.builtin .len,#[y],#[T]⟩,ty,ps,af,gd⟩:Oper),[],[],.c (.v (.int .i64 n))⟩) H) r ⟨upd tm t (.c (.v (.int .i64 n))),hp,gn,us,L⟩)(hx:AS.ev ⟨tm,hp,gn,us,L⟩ y=.c (.sl j n):=by exact rfl)(ht:Nat.blt t L=true:=by exact rfl)(hg:gw ops tm (⟨some t,.call ⟨.builtin .len,#[y],#[T]⟩,ty,ps,af,gd⟩:Oper)=some true:=by exact rfl)(hc:chk dr ops i (⟨some t,.call ⟨.builtin .len,#[y],#[T]⟩,ty,ps,af,gd⟩:Oper) ⟨fpO (AS.ev ⟨tm,hp,gn,us,L⟩) (⟨some t,.call ⟨.builtin .len,#[y],#[T]⟩,ty,ps,af,gd⟩:Oper),[],[],.c (.v (.int .i64 n))⟩ H=true:=by first|(with_reducible exact zj2)|kernel_rfl):WalkO Tryz.prog ops Q C dr H i (⟨some t,.call ⟨.builtin .len,#[y],#[T]⟩,ty,ps,af,gd⟩:Oper) r ⟨tm,hp,gn,us,L⟩:=⟨fun hop=>zm2 h hop rfl ht hg (zn19 (o:=(⟨some t,.call ⟨.builtin .len,#[y],#[T]⟩,ty,ps,af,gd⟩:Oper)) (hp:=hp) (id:=0) hF.h (by rw [hx];rfl) (by rw [hx];rfl)) hc⟩
end
section
variable {P:Program}{ops:Array Oper}{Q:Exit→Act→World→Prop}{C:Ctx}{H:List (Nat×Oper×Inf)}{i:Nat}{r:List Nat}{dr:Bool}{σ:AS}{ty:TypeId}{ps:String}{af:Array Edge}
theorem d_gs {d:Option Tmp}{op:Op}{gb:Nat×Bool}(h:WalkO P ops Q C dr H i (⟨d,op,ty,ps,af,some gb⟩:Oper) r σ):WalkO P ops Q C dr H i (⟨d,op,ty,ps,af,some gb⟩:Oper) r σ:=h
theorem d_bo {t:Tmp}{op:Op}{gd:Option (Nat×Bool)}(h:WalkO P ops Q C dr H i (⟨some t,op,4,ps,af,gd⟩:Oper) r σ):WalkO P ops Q C dr H i (⟨some t,op,4,ps,af,gd⟩:Oper) r σ:=h
theorem d_ca {t:Tmp}{fv:Operand}{as_:Array Operand}{ts:Array TypeId}{gd:Option (Nat×Bool)}(h:WalkO P ops Q C dr H i (⟨some t,.call ⟨.value fv,as_,ts⟩,ty,ps,af,gd⟩:Oper) r σ):WalkO P ops Q C dr H i (⟨some t,.call ⟨.value fv,as_,ts⟩,ty,ps,af,gd⟩:Oper) r σ:=h
theorem d_bi {t:Tmp}{b:Builtin}{as_:Array Operand}{ts:Array TypeId}{gd:Option (Nat×Bool)}(h:WalkO P ops Q C dr H i (⟨some t,.call ⟨.builtin b,as_,ts⟩,ty,ps,af,gd⟩:Oper) r σ):WalkO P ops Q C dr H i (⟨some t,.call ⟨.builtin b,as_,ts⟩,ty,ps,af,gd⟩:Oper) r σ:=h
theorem d_fa {t:Tmp}{S:TypeId}{f:Nat}{p:Operand}{gd:Option (Nat×Bool)}(h:WalkO P ops Q C dr H i (⟨some t,.fieldAddr S p f,ty,ps,af,gd⟩:Oper) r σ):WalkO P ops Q C dr H i (⟨some t,.fieldAddr S p f,ty,ps,af,gd⟩:Oper) r σ:=h
theorem d_ld {t:Tmp}{T:TypeId}{p:Operand}{gd:Option (Nat×Bool)}(h:WalkO P ops Q C dr H i (⟨some t,.load T p,ty,ps,af,gd⟩:Oper) r σ):WalkO P ops Q C dr H i (⟨some t,.load T p,ty,ps,af,gd⟩:Oper) r σ:=h
theorem d_st {T:TypeId}{p y:Operand}{gd:Option (Nat×Bool)}(h:WalkO P ops Q C dr H i (⟨none,.store T p y,ty,ps,af,gd⟩:Oper) r σ):WalkO P ops Q C dr H i (⟨none,.store T p y,ty,ps,af,gd⟩:Oper) r σ:=h
theorem d_ia {t:Tmp}{T:TypeId}{x y:Operand}{gd:Option (Nat×Bool)}(h:WalkO P ops Q C dr H i (⟨some t,.indexAddr T x y,ty,ps,af,gd⟩:Oper) r σ):WalkO P ops Q C dr H i (⟨some t,.indexAddr T x y,ty,ps,af,gd⟩:Oper) r σ:=h
theorem d_bb {t:Tmp}{T U:TypeId}{b:BinOp}{x y:Operand}{gd:Option (Nat×Bool)}(h:WalkO P ops Q C dr H i (⟨some t,.binOp b T x y U,ty,ps,af,gd⟩:Oper) r σ):WalkO P ops Q C dr H i (⟨some t,.binOp b T x y U,ty,ps,af,gd⟩:Oper) r σ:=h
theorem d_mv {t:Tmp}{x:Operand}{gd:Option (Nat×Bool)}(h:WalkO P ops Q C dr H i (⟨some t,.move x,ty,ps,af,gd⟩:Oper) r σ):WalkO P ops Q C dr H i (⟨some t,.move x,ty,ps,af,gd⟩:Oper) r σ:=h
theorem d_as {t:Tmp}{x:Operand}{gd:Option (Nat×Bool)}(h:WalkO P ops Q C dr H i (⟨some t,.assign x,ty,ps,af,gd⟩:Oper) r σ):WalkO P ops Q C dr H i (⟨some t,.assign x,ty,ps,af,gd⟩:Oper) r σ:=h
theorem d_wo {o:Oper}(h:WalkO P ops Q C dr H i o r σ):WalkO P ops Q C dr H i o r σ:=h
theorem d_w {l:List Nat}(h:Walk P ops Q C dr H l σ):Walk P ops Q C dr H l σ:=h
end
theorem zu9 {z:Int}(h0 : -9223372036854775808≤z)(h:z≤9223372036854775807):IntKind.i64.wrap z=z:=by
 rw [IntKind.wrap_i64];omega
def inR (x a b:Int):Bool:=decide (a≤x)&&decide (x≤b)
theorem zy5 (x a b:Int):Ctr Tryz.prog 60 [.c (.v (.int .i64 x)),.c (.v (.int .i64 a)),.c (.v (.int .i64 b))] [] (.c (.v (.bool (inR x a b)))) []:=by
 refine ze1 Tryz.func60 rfl rfl ?_
 repeat' (first|refine zd ?_|refine za fun C=>?_|refine zb ?_|(refine x_gm ?_ ?_<;>intro hG<;>(try cases hG))|refine zm2 ?_|refine x_sk ?_)
 all_goals
  refine zh ?_
  refine ret0 rfl zg1 ⟨?_,rfl⟩
  refine congrArg (fun s=>AV.c (AC.v (Value.bool s))) ?_
  simp at *
  simp [inR, *]
  try omega
theorem zo7 (x a b:Int):Ctr Tryz.prog 82 [.c (.v (.int .i64 x)),.c (.v (.int .i64 a)),.c (.v (.int .i64 b))] [] (.c (.v (.bool (inR x a b)))) []:=by
 refine ze1 Tryz.func82 rfl rfl ?_
 repeat' (first|refine zd ?_|refine za fun C=>?_|refine zb ?_|(refine x_gm ?_ ?_<;>intro hG<;>(try cases hG))|refine zm2 ?_|refine x_sk ?_)
 all_goals
  refine zh ?_
  refine ret0 rfl zg1 ⟨?_,rfl⟩
  refine congrArg (fun s=>AV.c (AC.v (Value.bool s))) ?_
  simp at *
  simp [inR, *]
  try omega
def digB (c:Nat):Bool:=decide (48≤c)&&decide (c≤57)
theorem zh15 (c:Nat):Ctr Tryz.prog 117 [.c (.v (.int .u8 (c:Int)))] [] (.c (.v (.bool (digB c)))) []:=by
 refine ze1 Tryz.func117 rfl rfl ?_
 repeat' (first|refine zd ?_|refine za fun C=>?_|refine zb ?_|(refine x_gm ?_ ?_<;>intro hG<;>(try cases hG))|refine zm2 ?_|refine x_sk ?_)
 all_goals
  (first|refine zh ?_|skip);refine ret0 rfl zg1 ⟨?_,rfl⟩;refine congrArg (fun s=>AV.c (AC.v (Value.bool s))) ?_
  unfold digB
  (rw [Bool.eq_iff_iff];(try simp only [Bool.and_eq_true,Bool.or_eq_true,Bool.not_eq_true',decide_eq_true_iff,decide_eq_false_iff_not,beq_iff_eq,Bool.and_eq_false_iff,Bool.or_eq_false_iff,bne_iff_ne,ne_eq,Bool.true_eq_false,Bool.false_eq_true,true_iff,false_iff,iff_true,iff_false] at *);first|omega|(simp at *;omega))
theorem zi15 {c:Nat}(hc:c<256):Ctr Tryz.prog 81 [.c (.v (.int .u8 (c:Int)))] [] (.c (.v (.bool (digB c)))) []:=by
 refine ze1 Tryz.func81 rfl rfl ?_
 repeat' (first|refine zd ?_|refine za fun C=>?_|refine zb ?_|refine zi17 ?_|refine zm2 ?_|refine zn7 (zo7 _ _ _) ?_)
 all_goals
  (first|refine zh ?_|skip);refine ret0 rfl zg1 ⟨?_,rfl⟩;refine congrArg (fun s=>AV.c (AC.v (Value.bool s))) ?_
  unfold digB inR
  (rw [Bool.eq_iff_iff];(try simp only [Bool.and_eq_true,Bool.or_eq_true,Bool.not_eq_true',decide_eq_true_iff,decide_eq_false_iff_not,beq_iff_eq,Bool.and_eq_false_iff,Bool.or_eq_false_iff,bne_iff_ne,ne_eq,Bool.true_eq_false,Bool.false_eq_true,true_iff,false_iff,iff_true,iff_false] at *);first|omega|(simp at *;omega))
theorem zp7 (p:E→Bool)(l:List E):decide (idxF p l ≥ 0)=l.any p:=by
 cases h:l.any p with
 | true =>
  obtain⟨x,hx,hp⟩:=List.any_eq_true.1 h
  rcases ze21 p l with h1|⟨k,h1,_⟩
  ·have:=idxF_neg h1
   rw [List.findIdx?_eq_none_iff] at this
   rw [this x hx] at hp;cases hp
  ·rw [h1];simp
 | false =>
  have hn:∀x∈l,p x=false:=fun x hx=>by
   cases hp:p x with
   | false=>rfl
   | true=>rw [List.any_eq_true.2 ⟨x,hx,hp⟩] at h;cases h
  rw [zy4 fun j y _ hy=>hn y (List.mem_of_getElem? hy)]
  rfl
end Go.Proofs.YtnjfnhoipnbpeaaGreatDoor
