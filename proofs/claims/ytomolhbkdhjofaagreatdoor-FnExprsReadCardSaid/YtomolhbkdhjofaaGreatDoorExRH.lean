/- T -/
import Derived.Test.YtomolhbkdhjofaaGreatDoorExRG
set_option maxHeartbeats 0
set_option maxRecDepth 100000
namespace Go.Proofs.YtomolhbkdhjofaaGreatDoor
open Go.RowKit Go.Proofs.Tryz
section
variable {P:Program}{S T:TypeId}{f off n:Nat}
def fldB (P:Program)(S:TypeId)(f off:Nat):Bool:=match tG P S f with|some fl=>(P.info? fl.type).isSome&&!(Nat.beq (P.cellsOf fl.type) 0)&&Nat.beq fl.offset off|none=>false
class FldI (P:Program) (S:TypeId) (f:Nat) (off:outParam Nat):Prop where
 h:fldB P S f off=true
def vW (P:Program)(T:TypeId):Bool:=match P.underlying T,P.info? T with|some d,some i=>Nat.beq i.size 1&&!(aggD d)&&Nat.beq (P.cellsOf T) 1|_,_=>false
class OneI (P:Program) (T:TypeId):Prop where
 h:vW P T=true
def vX (P:Program)(T:TypeId)(n:Nat):Bool:=match P.underlying T,P.info? T with|some d,some i=>Nat.beq i.size n&&aggD d&&Nat.beq (P.cellsOf T) n|_,_=>false
class AggI (P:Program) (T:TypeId) (n:outParam Nat):Prop where
 h:vX P T n=true
class StrI (P:Program) (T:TypeId):Prop where
 h:(match P.underlying T with|some .string=>true|_=>false)=true
class SlcI (P:Program) (T:TypeId):Prop where
 h:(match P.underlying T with|some (.slice _)=>true|_=>false)=true
theorem zy1 (h:fldB P S f off=true):∃fl,tG P S f=some fl∧((P.info? fl.type).isSome=true∧P.cellsOf fl.type≠0)∧fl.offset=off:=by
 unfold fldB at h
 split at h
 ·rename_i fl e
  simp only [baq,bnt] at h
  refine⟨fl,e,⟨h.1.1,fun h0=>?_⟩,Nat.eq_of_beq_eq_true h.2⟩
  rw [h0] at h;cases h.1.2
 ·cases h
theorem nZ (h:fldB P S f off=true){i o:Nat}:dS P S f (.c (.pt i o))=some (.c (.pt i (o+off))):=by
 obtain⟨fl,h1,h2,rfl⟩:=zy1 h
 unfold dS
 rw [h1]
 simp only [if_pos h2]
theorem n6 (h:fldB P S f off=true){l:List AC}{o:Nat}:dS P S f (.c (.rp l o))=some (.c (.rp l (o+off))):=by
 obtain⟨fl,h1,h2,rfl⟩:=zy1 h
 unfold dS
 rw [h1]
 simp only [if_pos h2]
theorem zz1 (h:vW P T=true):P.cellsOf T=1∧∀c,rJ P T [c]=some (.c (ld c)):=by
 unfold vW at h
 split at h
 ·rename_i d i e1 e2
  simp only [baq,bnt] at h
  refine⟨Nat.eq_of_beq_eq_true h.2,fun c=>?_⟩
  unfold rJ
  rw [e1,e2]
  simp only [h.1.2,List.length_cons,List.length_nil,Nat.eq_of_beq_eq_true h.1.1,if_true,Bool.false_eq_true,if_false]
 ·cases h
theorem za2 (h:vX P T n=true):P.cellsOf T=n∧∀cs:List AC,cs.length=n→rJ P T cs=some (.ag (cs.map ld)):=by
 unfold vX at h
 split at h
 ·rename_i d i e1 e2
  simp only [baq] at h
  refine⟨Nat.eq_of_beq_eq_true h.2,fun cs hl=>?_⟩
  unfold rJ
  rw [e1,e2]
  simp only [h.1.2,hl,Nat.eq_of_beq_eq_true h.1.1,if_true]
 ·cases h
theorem sf {l:List AC}{o:Nat}{c:AC}(h:l[o]? = some c):ij l o 1=[c]:=by
 unfold ij
 obtain⟨ho,rfl⟩:=List.getElem?_eq_some_iff.1 h
 rw [List.drop_eq_getElem_cons ho]
 rfl
theorem sg {l:List AC}{n:Nat}(h:l.length=n):ij l 0 n=l:=by
 unfold ij
 rw [List.drop_zero,List.take_of_length_le omq]
theorem vY {hp:Nat→Option Row}(h:vW P T=true){i o:Nat}{rw_:Row}{c:AC}(hr:hp i=some rw_)(hc:rw_.cs[o]? = some c):gB P T hp (.c (.pt i o))=some (.c (ld c)):=by
 obtain⟨h1,h2⟩:=zz1 h
 unfold gB
 simp only [hr,Option.bind_some,h1,sf hc,h2]
theorem tR {hp:Nat→Option Row}(h:vW P T=true){l:List AC}{o:Nat}{c:AC}(hc:l[o]? = some c):gB P T hp (.c (.rp l o))=some (.c (ld c)):=by
 obtain⟨h1,h2⟩:=zz1 h
 unfold gB
 simp only [h1,sf hc,h2]
theorem vZ {hp:Nat→Option Row}(h:vX P T n=true){i:Nat}{rT:TypeId}{rk rn:Nat}{rb:Bool}{cs:List AC}(hr:hp i=some ⟨rT,rk,rn,rb,cs⟩)(hn:cs.length=n):gB P T hp (.c (.pt i 0))=some (.ag (cs.map ld)):=by
 obtain⟨h1,h2⟩:=za2 h
 unfold gB
 simp only [hr,Option.bind_some,h1,sg hn,h2 _ hn]
theorem tS {hp:Nat→Option Row}(h:vX P T n=true){cs:List AC}(hn:cs.length=n):gB P T hp (.c (.rp cs 0))=some (.ag (cs.map ld)):=by
 obtain⟨h1,h2⟩:=za2 h
 unfold gB
 simp only [h1,sg hn,h2 _ hn]
theorem zb {o:Oper}{ev:Operand→AV}{hp:Nat→Option Row}{id:Nat}{y:Operand}{s:ByteArray}(h:(match P.underlying T with|some .string=>true|_=>false)=true)(hx:ev y=.c (.v (.string s))):EffCallD P o ev hp id ⟨.builtin .len,#[y],#[T]⟩=some (.c (.v (.int .i64 s.size)),.nop):=by
 show (if nQ P T (ev y)=true then nop? (aLen (ev y)) else none)=_
 have:nQ P T (ev y)=true:=by
  unfold nQ
  rw [hx]
  split at h
  ·rename_i e;rw [e];rfl
  ·cases h
 rw [if_pos this,hx]
 rfl
theorem sh {o:Oper}{ev:Operand→AV}{hp:Nat→Option Row}{id:Nat}{y:Operand}{n:Nat}(h:(match P.underlying T with|some (.slice _)=>true|_=>false)=true)(hx:j3 (ev y)=false)(hl:aLen (ev y)=some (.c (.v (.int .i64 n)))):EffCallD P o ev hp id ⟨.builtin .len,#[y],#[T]⟩=some (.c (.v (.int .i64 n)),.nop):=by
 show (if nQ P T (ev y)=true then nop? (aLen (ev y)) else none)=_
 have:nQ P T (ev y)=true:=by
  unfold nQ
  rw [hx]
  split at h
  ·rename_i e;rw [e];rfl
  ·cases h
 rw [if_pos this,hl]
 rfl
end
instance:OneI prog 3:=⟨by kernel_rfl⟩
instance:OneI prog 4:=⟨by kernel_rfl⟩
instance:OneI prog 5:=⟨by kernel_rfl⟩
instance:OneI prog 9:=⟨by kernel_rfl⟩
instance:StrI prog 9:=⟨by kernel_rfl⟩
instance:OneI prog 15:=⟨by kernel_rfl⟩
instance:OneI prog 16:=⟨by kernel_rfl⟩
instance:OneI prog 17:=⟨by kernel_rfl⟩
instance:OneI prog 22:=⟨by kernel_rfl⟩
instance:SlcI prog 22:=⟨by kernel_rfl⟩
instance:OneI prog 24:=⟨by kernel_rfl⟩
instance:SlcI prog 24:=⟨by kernel_rfl⟩
instance:FldI prog 26 0 0:=⟨by kernel_rfl⟩
instance:FldI prog 26 1 1:=⟨by kernel_rfl⟩
instance:FldI prog 26 2 2:=⟨by kernel_rfl⟩
instance:FldI prog 26 3 3:=⟨by kernel_rfl⟩
instance:AggI prog 26 4:=⟨by kernel_rfl⟩
instance:OneI prog 36:=⟨by kernel_rfl⟩
instance:SlcI prog 36:=⟨by kernel_rfl⟩
instance:OneI prog 40:=⟨by kernel_rfl⟩
instance:OneI prog 43:=⟨by kernel_rfl⟩
instance:FldI prog 45 0 0:=⟨by kernel_rfl⟩
instance:FldI prog 45 1 1:=⟨by kernel_rfl⟩
instance:FldI prog 45 2 2:=⟨by kernel_rfl⟩
instance:AggI prog 45 3:=⟨by kernel_rfl⟩
instance:OneI prog 49:=⟨by kernel_rfl⟩
instance:FldI prog 53 0 0:=⟨by kernel_rfl⟩
instance:FldI prog 53 1 1:=⟨by kernel_rfl⟩
instance:FldI prog 53 2 2:=⟨by kernel_rfl⟩
instance:FldI prog 53 3 3:=⟨by kernel_rfl⟩
instance:AggI prog 53 4:=⟨by kernel_rfl⟩
instance:OneI prog 58:=⟨by kernel_rfl⟩
instance:SlcI prog 58:=⟨by kernel_rfl⟩
instance:FldI prog 63 0 0:=⟨by kernel_rfl⟩
instance:FldI prog 63 1 1:=⟨by kernel_rfl⟩
instance:FldI prog 63 2 2:=⟨by kernel_rfl⟩
instance:AggI prog 63 3:=⟨by kernel_rfl⟩
instance:FldI prog 67 0 0:=⟨by kernel_rfl⟩
instance:FldI prog 67 1 1:=⟨by kernel_rfl⟩
instance:FldI prog 67 2 2:=⟨by kernel_rfl⟩
instance:AggI prog 67 3:=⟨by kernel_rfl⟩
instance:OneI prog 70:=⟨by kernel_rfl⟩
instance:SlcI prog 70:=⟨by kernel_rfl⟩
instance:OneI prog 105:=⟨by kernel_rfl⟩
instance:OneI prog 110:=⟨by kernel_rfl⟩
instance:SlcI prog 110:=⟨by kernel_rfl⟩
instance:FldI prog 112 0 0:=⟨by kernel_rfl⟩
instance:FldI prog 112 1 1:=⟨by kernel_rfl⟩
instance:FldI prog 112 2 2:=⟨by kernel_rfl⟩
instance:AggI prog 112 3:=⟨by kernel_rfl⟩
instance:OneI prog 126:=⟨by kernel_rfl⟩
instance:OneI prog 130:=⟨by kernel_rfl⟩
instance:OneI prog 131:=⟨by kernel_rfl⟩
instance:FldI prog 133 0 0:=⟨by kernel_rfl⟩
instance:FldI prog 133 1 1:=⟨by kernel_rfl⟩
instance:FldI prog 133 2 2:=⟨by kernel_rfl⟩
instance:FldI prog 133 3 3:=⟨by kernel_rfl⟩
instance:AggI prog 133 4:=⟨by kernel_rfl⟩
instance:OneI prog 136:=⟨by kernel_rfl⟩
instance:FldI prog 138 0 0:=⟨by kernel_rfl⟩
instance:FldI prog 138 1 1:=⟨by kernel_rfl⟩
instance:FldI prog 138 2 2:=⟨by kernel_rfl⟩
instance:FldI prog 138 3 3:=⟨by kernel_rfl⟩
instance:AggI prog 138 4:=⟨by kernel_rfl⟩
instance:OneI prog 160:=⟨by kernel_rfl⟩
section
variable {ops:Array Oper}{Q:Exit→Act→World→Prop}{C:Ctx}{H H':List (Nat×Oper×Inf)}{i:Nat}{r:List Nat}{dr:Bool}
variable {tm:Nat→AV}{hp:Nat→Option Row}{gn L:Nat}{us:List Nat}
theorem dZ {t:Nat}{ty:TypeId}{gd:Option (Nat×Bool)}{ps:String}{af:Array Edge}{S:TypeId}{f:Nat}{p:Operand}{i0 o0 off:Nat}[hF:FldI prog S f off](h:Walk prog ops Q C dr (bK dr (i,(⟨some t,.fieldAddr S p f,ty,ps,af,gd⟩:Oper),⟨fpO (AS.ev ⟨tm,hp,gn,us,L⟩) (⟨some t,.fieldAddr S p f,ty,ps,af,gd⟩:Oper),[],[],.c (.pt i0 (o0+off))⟩) H) r ⟨upd tm t (.c (.pt i0 (o0+off))),hp,gn,us,L⟩)(hx:AS.ev ⟨tm,hp,gn,us,L⟩ p=.c (.pt i0 o0):=by exact rfl)(ht:Nat.blt t L=true:=by exact rfl)(hg:gw ops tm (⟨some t,.fieldAddr S p f,ty,ps,af,gd⟩:Oper)=some true:=by exact rfl)(hc:chk dr ops i (⟨some t,.fieldAddr S p f,ty,ps,af,gd⟩:Oper) ⟨fpO (AS.ev ⟨tm,hp,gn,us,L⟩) (⟨some t,.fieldAddr S p f,ty,ps,af,gd⟩:Oper),[],[],.c (.pt i0 (o0+off))⟩ H=true:=by first|(with_reducible exact bv)|kernel_rfl):WalkO prog ops Q C dr H i (⟨some t,.fieldAddr S p f,ty,ps,af,gd⟩:Oper) r ⟨tm,hp,gn,us,L⟩:=⟨fun hop=>cV h hop rfl ht hg (by show nop? (dS _ S f (AS.ev ⟨tm,hp,gn,us,L⟩ p))=_;rw [hx,nZ hF.h];rfl) hc⟩
theorem ga {t:Nat}{ty:TypeId}{gd:Option (Nat×Bool)}{ps:String}{af:Array Edge}{S:TypeId}{f:Nat}{p:Operand}{l:List AC}{o0 off:Nat}[hF:FldI prog S f off](h:Walk prog ops Q C dr (bK dr (i,(⟨some t,.fieldAddr S p f,ty,ps,af,gd⟩:Oper),⟨fpO (AS.ev ⟨tm,hp,gn,us,L⟩) (⟨some t,.fieldAddr S p f,ty,ps,af,gd⟩:Oper),[],[],.c (.rp l (o0+off))⟩) H) r ⟨upd tm t (.c (.rp l (o0+off))),hp,gn,us,L⟩)(hx:AS.ev ⟨tm,hp,gn,us,L⟩ p=.c (.rp l o0):=by exact rfl)(ht:Nat.blt t L=true:=by exact rfl)(hg:gw ops tm (⟨some t,.fieldAddr S p f,ty,ps,af,gd⟩:Oper)=some true:=by exact rfl)(hc:chk dr ops i (⟨some t,.fieldAddr S p f,ty,ps,af,gd⟩:Oper) ⟨fpO (AS.ev ⟨tm,hp,gn,us,L⟩) (⟨some t,.fieldAddr S p f,ty,ps,af,gd⟩:Oper),[],[],.c (.rp l (o0+off))⟩ H=true:=by first|(with_reducible exact bv)|kernel_rfl):WalkO prog ops Q C dr H i (⟨some t,.fieldAddr S p f,ty,ps,af,gd⟩:Oper) r ⟨tm,hp,gn,us,L⟩:=⟨fun hop=>cV h hop rfl ht hg (by show nop? (dS _ S f (AS.ev ⟨tm,hp,gn,us,L⟩ p))=_;rw [hx,n6 hF.h];rfl) hc⟩
theorem bW {t:Nat}{ty:TypeId}{gd:Option (Nat×Bool)}{ps:String}{af:Array Edge}{T:TypeId}{p:Operand}{i0 o0:Nat}{rw:Row}{c:AC}[hF:OneI prog T](h:Walk prog ops Q C dr (bK dr (i,(⟨some t,.load T p,ty,ps,af,gd⟩:Oper),⟨fpO (AS.ev ⟨tm,hp,gn,us,L⟩) (⟨some t,.load T p,ty,ps,af,gd⟩:Oper),[],[],.c c⟩) H) r ⟨upd tm t (.c c),hp,gn,us,L⟩)(hx:AS.ev ⟨tm,hp,gn,us,L⟩ p=.c (.pt i0 o0):=by exact rfl)(hr:hp i0=some rw:=by exact rfl)(hcs:rw.cs[o0]? = some c:=by exact rfl)(hld:ld c=c:=by exact rfl)(ht:Nat.blt t L=true:=by exact rfl)(hg:gw ops tm (⟨some t,.load T p,ty,ps,af,gd⟩:Oper)=some true:=by exact rfl)(hc:chk dr ops i (⟨some t,.load T p,ty,ps,af,gd⟩:Oper) ⟨fpO (AS.ev ⟨tm,hp,gn,us,L⟩) (⟨some t,.load T p,ty,ps,af,gd⟩:Oper),[],[],.c c⟩ H=true:=by first|(with_reducible exact bv)|kernel_rfl):WalkO prog ops Q C dr H i (⟨some t,.load T p,ty,ps,af,gd⟩:Oper) r ⟨tm,hp,gn,us,L⟩:=⟨fun hop=>cV h hop rfl ht hg (by show nop? (gB _ T hp (AS.ev ⟨tm,hp,gn,us,L⟩ p))=_;rw [hx,vY hF.h hr hcs,hld];rfl) hc⟩
theorem d7 {t:Nat}{ty:TypeId}{gd:Option (Nat×Bool)}{ps:String}{af:Array Edge}{T:TypeId}{p:Operand}{l:List AC}{o0:Nat}{c:AC}[hF:OneI prog T](h:Walk prog ops Q C dr (bK dr (i,(⟨some t,.load T p,ty,ps,af,gd⟩:Oper),⟨fpO (AS.ev ⟨tm,hp,gn,us,L⟩) (⟨some t,.load T p,ty,ps,af,gd⟩:Oper),[],[],.c c⟩) H) r ⟨upd tm t (.c c),hp,gn,us,L⟩)(hx:AS.ev ⟨tm,hp,gn,us,L⟩ p=.c (.rp l o0):=by exact rfl)(hcs:l[o0]? = some c:=by exact rfl)(hld:ld c=c:=by exact rfl)(ht:Nat.blt t L=true:=by exact rfl)(hg:gw ops tm (⟨some t,.load T p,ty,ps,af,gd⟩:Oper)=some true:=by exact rfl)(hc:chk dr ops i (⟨some t,.load T p,ty,ps,af,gd⟩:Oper) ⟨fpO (AS.ev ⟨tm,hp,gn,us,L⟩) (⟨some t,.load T p,ty,ps,af,gd⟩:Oper),[],[],.c c⟩ H=true:=by first|(with_reducible exact bv)|kernel_rfl):WalkO prog ops Q C dr H i (⟨some t,.load T p,ty,ps,af,gd⟩:Oper) r ⟨tm,hp,gn,us,L⟩:=⟨fun hop=>cV h hop rfl ht hg (by show nop? (gB _ T hp (AS.ev ⟨tm,hp,gn,us,L⟩ p))=_;rw [hx,tR hF.h hcs,hld];rfl) hc⟩
theorem gI {t:Nat}{ty:TypeId}{gd:Option (Nat×Bool)}{ps:String}{af:Array Edge}{T:TypeId}{p:Operand}{i0 n:Nat}{cs:List AC}{rT:TypeId}{rk rn:Nat}{rb:Bool}[hF:AggI prog T n](h:Walk prog ops Q C dr (bK dr (i,(⟨some t,.load T p,ty,ps,af,gd⟩:Oper),⟨fpO (AS.ev ⟨tm,hp,gn,us,L⟩) (⟨some t,.load T p,ty,ps,af,gd⟩:Oper),[],[],.ag cs⟩) H) r ⟨upd tm t (.ag cs),hp,gn,us,L⟩)(hx:AS.ev ⟨tm,hp,gn,us,L⟩ p=.c (.pt i0 0):=by exact rfl)(hr:hp i0=some ⟨rT,rk,rn,rb,cs⟩:=by exact rfl)(hn:cs.length=n:=by exact rfl)(hld:cs.map ld=cs:=by exact rfl)(ht:Nat.blt t L=true:=by exact rfl)(hg:gw ops tm (⟨some t,.load T p,ty,ps,af,gd⟩:Oper)=some true:=by exact rfl)(hc:chk dr ops i (⟨some t,.load T p,ty,ps,af,gd⟩:Oper) ⟨fpO (AS.ev ⟨tm,hp,gn,us,L⟩) (⟨some t,.load T p,ty,ps,af,gd⟩:Oper),[],[],.ag cs⟩ H=true:=by first|(with_reducible exact bv)|kernel_rfl):WalkO prog ops Q C dr H i (⟨some t,.load T p,ty,ps,af,gd⟩:Oper) r ⟨tm,hp,gn,us,L⟩:=⟨fun hop=>cV h hop rfl ht hg (by show nop? (gB _ T hp (AS.ev ⟨tm,hp,gn,us,L⟩ p))=_;rw [hx,vZ hF.h hr hn,hld];rfl) hc⟩
theorem dQ {t:Nat}{ty:TypeId}{gd:Option (Nat×Bool)}{ps:String}{af:Array Edge}{T:TypeId}{p:Operand}{n:Nat}{cs:List AC}[hF:AggI prog T n](h:Walk prog ops Q C dr (bK dr (i,(⟨some t,.load T p,ty,ps,af,gd⟩:Oper),⟨fpO (AS.ev ⟨tm,hp,gn,us,L⟩) (⟨some t,.load T p,ty,ps,af,gd⟩:Oper),[],[],.ag cs⟩) H) r ⟨upd tm t (.ag cs),hp,gn,us,L⟩)(hx:AS.ev ⟨tm,hp,gn,us,L⟩ p=.c (.rp cs 0):=by exact rfl)(hn:cs.length=n:=by exact rfl)(hld:cs.map ld=cs:=by exact rfl)(ht:Nat.blt t L=true:=by exact rfl)(hg:gw ops tm (⟨some t,.load T p,ty,ps,af,gd⟩:Oper)=some true:=by exact rfl)(hc:chk dr ops i (⟨some t,.load T p,ty,ps,af,gd⟩:Oper) ⟨fpO (AS.ev ⟨tm,hp,gn,us,L⟩) (⟨some t,.load T p,ty,ps,af,gd⟩:Oper),[],[],.ag cs⟩ H=true:=by first|(with_reducible exact bv)|kernel_rfl):WalkO prog ops Q C dr H i (⟨some t,.load T p,ty,ps,af,gd⟩:Oper) r ⟨tm,hp,gn,us,L⟩:=⟨fun hop=>cV h hop rfl ht hg (by show nop? (gB _ T hp (AS.ev ⟨tm,hp,gn,us,L⟩ p))=_;rw [hx,tS hF.h hn,hld];rfl) hc⟩
theorem dJ {t:Nat}{ty:TypeId}{gd:Option (Nat×Bool)}{ps:String}{af:Array Edge}{T:TypeId}{y:Operand}{s:ByteArray}[hF:StrI prog T](h:Walk prog ops Q C dr (bK dr (i,(⟨some t,.call ⟨.builtin .len,#[y],#[T]⟩,ty,ps,af,gd⟩:Oper),⟨fpO (AS.ev ⟨tm,hp,gn,us,L⟩) (⟨some t,.call ⟨.builtin .len,#[y],#[T]⟩,ty,ps,af,gd⟩:Oper),[],[],.c (.v (.int .i64 s.size))⟩) H) r ⟨upd tm t (.c (.v (.int .i64 s.size))),hp,gn,us,L⟩)(hx:AS.ev ⟨tm,hp,gn,us,L⟩ y=.c (.v (.string s)):=by exact rfl)(ht:Nat.blt t L=true:=by exact rfl)(hg:gw ops tm (⟨some t,.call ⟨.builtin .len,#[y],#[T]⟩,ty,ps,af,gd⟩:Oper)=some true:=by exact rfl)(hc:chk dr ops i (⟨some t,.call ⟨.builtin .len,#[y],#[T]⟩,ty,ps,af,gd⟩:Oper) ⟨fpO (AS.ev ⟨tm,hp,gn,us,L⟩) (⟨some t,.call ⟨.builtin .len,#[y],#[T]⟩,ty,ps,af,gd⟩:Oper),[],[],.c (.v (.int .i64 s.size))⟩ H=true:=by first|(with_reducible exact bv)|kernel_rfl):WalkO prog ops Q C dr H i (⟨some t,.call ⟨.builtin .len,#[y],#[T]⟩,ty,ps,af,gd⟩:Oper) r ⟨tm,hp,gn,us,L⟩:=⟨fun hop=>cV h hop rfl ht hg (zb (o:=(⟨some t,.call ⟨.builtin .len,#[y],#[T]⟩,ty,ps,af,gd⟩:Oper)) (hp:=hp) (id:=0) hF.h hx) hc⟩
theorem dt {t:Nat}{ty:TypeId}{gd:Option (Nat×Bool)}{ps:String}{af:Array Edge}{T:TypeId}{y:Operand}{n k:Nat}{l:List AC}[hF:SlcI prog T](h:Walk prog ops Q C dr (bK dr (i,(⟨some t,.call ⟨.builtin .len,#[y],#[T]⟩,ty,ps,af,gd⟩:Oper),⟨fpO (AS.ev ⟨tm,hp,gn,us,L⟩) (⟨some t,.call ⟨.builtin .len,#[y],#[T]⟩,ty,ps,af,gd⟩:Oper),[],[],.c (.v (.int .i64 n))⟩) H) r ⟨upd tm t (.c (.v (.int .i64 n))),hp,gn,us,L⟩)(hx:AS.ev ⟨tm,hp,gn,us,L⟩ y=.c (.ro n k l):=by exact rfl)(ht:Nat.blt t L=true:=by exact rfl)(hg:gw ops tm (⟨some t,.call ⟨.builtin .len,#[y],#[T]⟩,ty,ps,af,gd⟩:Oper)=some true:=by exact rfl)(hc:chk dr ops i (⟨some t,.call ⟨.builtin .len,#[y],#[T]⟩,ty,ps,af,gd⟩:Oper) ⟨fpO (AS.ev ⟨tm,hp,gn,us,L⟩) (⟨some t,.call ⟨.builtin .len,#[y],#[T]⟩,ty,ps,af,gd⟩:Oper),[],[],.c (.v (.int .i64 n))⟩ H=true:=by first|(with_reducible exact bv)|kernel_rfl):WalkO prog ops Q C dr H i (⟨some t,.call ⟨.builtin .len,#[y],#[T]⟩,ty,ps,af,gd⟩:Oper) r ⟨tm,hp,gn,us,L⟩:=⟨fun hop=>cV h hop rfl ht hg (sh (o:=(⟨some t,.call ⟨.builtin .len,#[y],#[T]⟩,ty,ps,af,gd⟩:Oper)) (hp:=hp) (id:=0) hF.h (by rw [hx];rfl) (by rw [hx];rfl)) hc⟩
theorem gp {t:Nat}{ty:TypeId}{gd:Option (Nat×Bool)}{ps:String}{af:Array Edge}{T:TypeId}{y:Operand}{j n:Nat}[hF:SlcI prog T](h:Walk prog ops Q C dr (bK dr (i,(⟨some t,.call ⟨.builtin .len,#[y],#[T]⟩,ty,ps,af,gd⟩:Oper),⟨fpO (AS.ev ⟨tm,hp,gn,us,L⟩) (⟨some t,.call ⟨.builtin .len,#[y],#[T]⟩,ty,ps,af,gd⟩:Oper),[],[],.c (.v (.int .i64 n))⟩) H) r ⟨upd tm t (.c (.v (.int .i64 n))),hp,gn,us,L⟩)(hx:AS.ev ⟨tm,hp,gn,us,L⟩ y=.c (.sl j n):=by exact rfl)(ht:Nat.blt t L=true:=by exact rfl)(hg:gw ops tm (⟨some t,.call ⟨.builtin .len,#[y],#[T]⟩,ty,ps,af,gd⟩:Oper)=some true:=by exact rfl)(hc:chk dr ops i (⟨some t,.call ⟨.builtin .len,#[y],#[T]⟩,ty,ps,af,gd⟩:Oper) ⟨fpO (AS.ev ⟨tm,hp,gn,us,L⟩) (⟨some t,.call ⟨.builtin .len,#[y],#[T]⟩,ty,ps,af,gd⟩:Oper),[],[],.c (.v (.int .i64 n))⟩ H=true:=by first|(with_reducible exact bv)|kernel_rfl):WalkO prog ops Q C dr H i (⟨some t,.call ⟨.builtin .len,#[y],#[T]⟩,ty,ps,af,gd⟩:Oper) r ⟨tm,hp,gn,us,L⟩:=⟨fun hop=>cV h hop rfl ht hg (sh (o:=(⟨some t,.call ⟨.builtin .len,#[y],#[T]⟩,ty,ps,af,gd⟩:Oper)) (hp:=hp) (id:=0) hF.h (by rw [hx];rfl) (by rw [hx];rfl)) hc⟩
end
section
variable {P:Program}{ops:Array Oper}{Q:Exit→Act→World→Prop}{C:Ctx}{H:List (Nat×Oper×Inf)}{i:Nat}{r:List Nat}{dr:Bool}{σ:AS}{ty:TypeId}{ps:String}{af:Array Edge}
theorem d_gs {d:Option Tmp}{op:Op}{gb:Nat×Bool}(h:WalkO P ops Q C dr H i (⟨d,op,ty,ps,af,some gb⟩:Oper) r σ):WalkO P ops Q C dr H i (⟨d,op,ty,ps,af,some gb⟩:Oper) r σ:=h
theorem d_bo {t:Tmp}{op:Op}{gd:Option (Nat×Bool)}(h:WalkO P ops Q C dr H i (⟨some t,op,4,ps,af,gd⟩:Oper) r σ):WalkO P ops Q C dr H i (⟨some t,op,4,ps,af,gd⟩:Oper) r σ:=h
theorem d_ca {t:Tmp}{fv:Operand}{as_:Array Operand}{ts:Array TypeId}{gd:Option (Nat×Bool)}(h:WalkO P ops Q C dr H i (⟨some t,.call ⟨.value fv,as_,ts⟩,ty,ps,af,gd⟩:Oper) r σ):WalkO P ops Q C dr H i (⟨some t,.call ⟨.value fv,as_,ts⟩,ty,ps,af,gd⟩:Oper) r σ:=h
theorem tT {t:Tmp}{b:Builtin}{as_:Array Operand}{ts:Array TypeId}{gd:Option (Nat×Bool)}(h:WalkO P ops Q C dr H i (⟨some t,.call ⟨.builtin b,as_,ts⟩,ty,ps,af,gd⟩:Oper) r σ):WalkO P ops Q C dr H i (⟨some t,.call ⟨.builtin b,as_,ts⟩,ty,ps,af,gd⟩:Oper) r σ:=h
theorem d_fa {t:Tmp}{S:TypeId}{f:Nat}{p:Operand}{gd:Option (Nat×Bool)}(h:WalkO P ops Q C dr H i (⟨some t,.fieldAddr S p f,ty,ps,af,gd⟩:Oper) r σ):WalkO P ops Q C dr H i (⟨some t,.fieldAddr S p f,ty,ps,af,gd⟩:Oper) r σ:=h
theorem tU {t:Tmp}{T:TypeId}{p:Operand}{gd:Option (Nat×Bool)}(h:WalkO P ops Q C dr H i (⟨some t,.load T p,ty,ps,af,gd⟩:Oper) r σ):WalkO P ops Q C dr H i (⟨some t,.load T p,ty,ps,af,gd⟩:Oper) r σ:=h
theorem d_st {T:TypeId}{p y:Operand}{gd:Option (Nat×Bool)}(h:WalkO P ops Q C dr H i (⟨none,.store T p y,ty,ps,af,gd⟩:Oper) r σ):WalkO P ops Q C dr H i (⟨none,.store T p y,ty,ps,af,gd⟩:Oper) r σ:=h
theorem tV {t:Tmp}{T:TypeId}{x y:Operand}{gd:Option (Nat×Bool)}(h:WalkO P ops Q C dr H i (⟨some t,.indexAddr T x y,ty,ps,af,gd⟩:Oper) r σ):WalkO P ops Q C dr H i (⟨some t,.indexAddr T x y,ty,ps,af,gd⟩:Oper) r σ:=h
theorem fF {t:Tmp}{T U:TypeId}{b:BinOp}{x y:Operand}{gd:Option (Nat×Bool)}(h:WalkO P ops Q C dr H i (⟨some t,.binOp b T x y U,ty,ps,af,gd⟩:Oper) r σ):WalkO P ops Q C dr H i (⟨some t,.binOp b T x y U,ty,ps,af,gd⟩:Oper) r σ:=h
theorem tW {t:Tmp}{S D:TypeId}{x:Operand}{gd:Option (Nat×Bool)}(h:WalkO P ops Q C dr H i (⟨some t,.convert S D x,ty,ps,af,gd⟩:Oper) r σ):WalkO P ops Q C dr H i (⟨some t,.convert S D x,ty,ps,af,gd⟩:Oper) r σ:=h
theorem dC {t:Tmp}{x:Operand}{gd:Option (Nat×Bool)}(h:WalkO P ops Q C dr H i (⟨some t,.move x,ty,ps,af,gd⟩:Oper) r σ):WalkO P ops Q C dr H i (⟨some t,.move x,ty,ps,af,gd⟩:Oper) r σ:=h
theorem iu {t:Tmp}{x:Operand}{gd:Option (Nat×Bool)}(h:WalkO P ops Q C dr H i (⟨some t,.assign x,ty,ps,af,gd⟩:Oper) r σ):WalkO P ops Q C dr H i (⟨some t,.assign x,ty,ps,af,gd⟩:Oper) r σ:=h
theorem da {o:Oper}(h:WalkO P ops Q C dr H i o r σ):WalkO P ops Q C dr H i o r σ:=h
theorem d_w {l:List Nat}(h:Walk P ops Q C dr H l σ):Walk P ops Q C dr H l σ:=h
end
theorem lj {z:Int}(h0 : -9223372036854775808≤z)(h:z≤9223372036854775807):IntKind.i64.wrap z=z:=by
 rw [IntKind.wrap_i64];omega
def inR (x a b:Int):Bool:=decide (a≤x)&&decide (x≤b)
theorem iN (x a b:Int):Ctr prog 78 [.c (.v (.int .i64 x)),.c (.v (.int .i64 a)),.c (.v (.int .i64 b))] [] (.c (.v (.bool (inR x a b)))) []:=by
 refine az func78 rfl rfl ?_
 repeat' (first|refine ac ?_|refine aa fun C=>?_|refine ab ?_|(refine x_gm ?_ ?_<;>intro hG<;>(try cases hG))|refine cV ?_|refine iX ?_)
 all_goals
  refine am ?_
  refine bA rfl aJ ⟨?_,rfl⟩
  refine congrArg (fun s=>AV.c (AC.v (Value.bool s))) ?_
  simp at *
  simp [inR, *]
  try omega
theorem jc (x a b:Int):Ctr prog 72 [.c (.v (.int .i64 x)),.c (.v (.int .i64 a)),.c (.v (.int .i64 b))] [] (.c (.v (.bool (inR x a b)))) []:=by
 refine az func72 rfl rfl ?_
 repeat' (first|refine ac ?_|refine aa fun C=>?_|refine ab ?_|(refine x_gm ?_ ?_<;>intro hG<;>(try cases hG))|refine cV ?_|refine iX ?_)
 all_goals
  refine am ?_
  refine bA rfl aJ ⟨?_,rfl⟩
  refine congrArg (fun s=>AV.c (AC.v (Value.bool s))) ?_
  simp at *
  simp [inR, *]
  try omega
def cW (c:Nat):Bool:=decide (48≤c)&&decide (c≤57)
theorem fT (c:Nat):Ctr prog 63 [.c (.v (.int .u8 (c:Int)))] [] (.c (.v (.bool (cW c)))) []:=by
 refine az func63 rfl rfl ?_
 repeat' (first|refine ac ?_|refine aa fun C=>?_|refine ab ?_|(refine x_gm ?_ ?_<;>intro hG<;>(try cases hG))|refine cV ?_|refine iX ?_)
 all_goals
  (first|refine am ?_|skip);refine bA rfl aJ ⟨?_,rfl⟩;refine congrArg (fun s=>AV.c (AC.v (Value.bool s))) ?_
  unfold cW
  (rw [Bool.eq_iff_iff];(try simp only [baq,Bool.or_eq_true,bnt,dqt,dqn,beq_iff_eq,Bool.and_eq_false_iff,Bool.or_eq_false_iff,bne_iff_ne,ne_eq,Bool.true_eq_false,Bool.false_eq_true,true_iff,false_iff,iff_true,iff_false] at *);first|omega|(simp at *;omega))
theorem iv {c:Nat}(hc:c<256):Ctr prog 114 [.c (.v (.int .u8 (c:Int)))] [] (.c (.v (.bool (cW c)))) []:=by
 refine az func114 rfl rfl ?_
 repeat' (first|refine ac ?_|refine aa fun C=>?_|refine ab ?_|refine ph ?_|refine cV ?_|refine m0 (jc _ _ _) ?_)
 all_goals
  (first|refine am ?_|skip);refine bA rfl aJ ⟨?_,rfl⟩;refine congrArg (fun s=>AV.c (AC.v (Value.bool s))) ?_
  unfold cW inR
  (rw [Bool.eq_iff_iff];(try simp only [baq,Bool.or_eq_true,bnt,dqt,dqn,beq_iff_eq,Bool.and_eq_false_iff,Bool.or_eq_false_iff,bne_iff_ne,ne_eq,Bool.true_eq_false,Bool.false_eq_true,true_iff,false_iff,iff_true,iff_false] at *);first|omega|(simp at *;omega))
theorem n7 (p:E→Bool)(l:List E):decide (qh p l ≥ 0)=l.any p:=by
 cases h:l.any p with
 | true =>
  obtain⟨x,hx,hp⟩:=List.any_eq_true.1 h
  rcases tP p l with h1|⟨k,h1,_⟩
  ·have:=yZ h1
   rw [List.findIdx?_eq_none_iff] at this
   rw [this x hx] at hp;cases hp
  ·rw [h1];simp
 | false =>
  have hn:∀x∈l,p x=false:=fun x hx=>by
   cases hp:p x with
   | false=>rfl
   | true=>rw [List.any_eq_true.2 ⟨x,hx,hp⟩] at h;cases h
  rw [jA fun j y _ hy=>hn y (mge hy)]
  rfl
end Go.Proofs.YtomolhbkdhjofaaGreatDoor
