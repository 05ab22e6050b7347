/- T -/
import Derived.Shelf.LaysM
import Derived.Shelf.Strconv.Itoa3
import Derived.Test.YtomolhbkdhjofaaGreatDoorExRI
set_option maxHeartbeats 0
set_option maxRecDepth 100000
namespace Go.Proofs.YtomolhbkdhjofaaGreatDoor
open Go.RowKit Go.Proofs.Tryz
section
variable {C:Ctx}{φ:Nat→Lc}{F:Nat→List Nat}{St:Nat→Prop}{σ:AS}{a:Act}{w w':World}
theorem SimF.give (h:SimF C φ F St σ a w){b:Nat}(hf:Free C φ F St σ b)(hs:Stp (some b) w w'):SimF C φ F (fun x=>(St x∧x<w.heap.size)∨x=b) σ a w':=by
 have hS:∀x,St x→x<w.heap.size→((St x∧x<w.heap.size)∨x=b)∧w'.heap[x]? = w.heap[x]? := fun x hx hl=>⟨.inl ⟨hx,hl⟩,hs.blk x hl fun e=>hf.2.1 (by injection e with e;exact e▸hx)⟩
 have hK:∀j,σ.Kn j→σ.Kn j∧φ j=φ j:=fun j hj=>⟨hj,rfl⟩
 refine⟨h.dfr,h.len,fun t=>VR.mono hS hs.size hK _ _ (h.tms t),fun j s hj=>⟨(h.row j s hj).1,?_⟩,h.nod,h.dis,h.bxF,h.bxd,fun j s x hj hx hst=>?_,fun j s x lo hj e hst=>?_,?_,h.own,h.par,h.new,h.gnN,fun x hx hl=>?_⟩
 ·have h1:=(h.row j s hj).2
  exact h1.mono hS hs.size hK (fun x hx=>hs.blk x (h1.lt x hx) fun e=>(hf.1 j s hj).1 (by injection e with e;exact e▸hx)) fun x lo us e' _ hB=>hB.block (hs.blk x hB.lt fun e=>(hf.1 j s hj).2 lo (by injection e with e;rw [e',e]))
 ·rcases hst with h1|rfl
  ·exact h.stF j s x hj hx h1.1
  ·exact (hf.1 j s hj).1 hx
 ·rcases hst with h1|rfl
  ·exact h.stB j s x lo hj e h1.1
  ·exact (hf.1 j s hj).2 lo e
 ·have hfr:=h.frm
  refine⟨hs.os.trans hfr.os,hs.tape.trans hfr.tape,hs.output.trans hfr.output,Nat.le_trans hfr.size hs.size,fun x hx hM=>(hfr.blk x hx hM).trans (.inl (hs.blk x (Nat.lt_of_lt_of_le hx hfr.size) fun e=>?_))⟩
  injection e with e
  subst e
  rcases hf.2.2 with h1|h1
  ·exact hM h1
  ·omega
 ·rcases hx with h1|rfl
  ·exact h.stS x h1.1 hl
  ·rcases hf.2.2 with h1|h1
   ·exact .inr h1
   ·omega
end
section
variable {P:Program}{ops:Array Oper}{Q:Exit→Act→World→Prop}{C:Ctx}{i:Nat}{r:List Nat}{o:Oper}
variable {tm:Nat→AV}{hp:Nat→Option Row}{gn L:Nat}{us:List Nat}{x:AV}
theorem ud {w:World}{b:Nat}{cur:Array Value}{e:TypeId}(h:w.heap[b]? = some (.cells cur e (0,0))):(w.freeze ⟨b,cur.size,none⟩ 1).heap[b]? = some (.cells cur e (cur.size,cur.size+1))∧Stp (some b) w (w.freeze ⟨b,cur.size,none⟩ 1):=by
 unfold World.freeze
 rw [if_neg (by decide)]
 refine⟨?_,rfl,rfl,rfl,?_,fun j hj hne=>?_⟩
 ·show (w.heap.modify b _)[b]? = _
  rw [Array.getElem?_modify,if_pos rfl,h];rfl
 ·show w.heap.size≤(w.heap.modify b _).size
  rw [Array.size_modify];exact nlr _
 ·show (w.heap.modify b _)[j]? = _
  rw [Array.getElem?_modify,if_neg (fun e=>hne (by rw [e]))]
theorem wd {P:Program}{T e:TypeId}{w:World}{b n c:Nat}{cur:Array Value}(ht:P.underlying T=some (.slice e))(he:P.underlying e=some (.int .u8))(h:w.heap[b]? = some (.cells cur e (0,0))) :
 (convert T T (.slice (some ⟨b,0,none⟩) n c)).run P w=.ok (.slice (some ⟨b,0,none⟩) n c) (w.freeze ⟨b,cur.size,none⟩ 1):=by
 have hsh:w.shape? b=some (e,cur.size):=by unfold World.shape?;rw [h]
 simp [convert,run_underlying ht,run_underlying he,markStringish,hsh]
def scC:AC→Bool
 | .v _=>true
 | _=>false
theorem we {w w':World}{St St':Nat→Prop}{φ φ':Nat→Lc}{K K':Nat→Prop}:∀{l:List AC} {us:List Value} {fp:List Nat},l.all scC=true→CRL w St φ K l us fp→fp=[]∧CRL w' St' φ' K' l us []
 | [],us,fp,_,h=>by
  simp only [CRL] at h
  obtain⟨rfl,rfl⟩:=h
  exact⟨rfl,CRL.nil⟩
 | c :: t,us,fp,hl,h=>by
  simp only [List.all_cons,baq] at hl
  simp only [CRL] at h
  obtain⟨u,us',f1,f2,rfl,rfl,h1,h2⟩:=h
  obtain⟨rfl,h4⟩:=we (w':=w') (St':=St') (φ':=φ') (K':=K') hl.2 h2
  cases c with
  | v y =>
   simp only [CR] at h1
   obtain⟨rfl,g2,rfl⟩:=h1
   exact⟨rfl,CRL.cons (f:=[]) (f':=[]) (by simp only [CR];exact⟨trivial,g2,trivial⟩) h4⟩
  | _=>cases hl.1
theorem n_cvm {ty:TypeId}{gd:Option (Nat×Bool)}{ps:String}{af:Array Edge}{t j n:Nat}{T e:TypeId}{xo:Operand}{cs:List AC}
 (h:Walk P ops Q C false [] r ⟨upd tm t (.c (.ro n 1 cs)),upd hp j none,gn,us,L⟩)
 (hT:P.underlying T=some (.slice e)) (hE:P.underlying e=some (.int .u8)) (ht:Nat.blt t L=true:=by exact rfl) (hg:gw ops tm (⟨some t,.convert T T xo,ty,ps,af,gd⟩:Oper)=some true:=by exact rfl)
 (hx:AS.ev ⟨tm,hp,gn,us,L⟩ xo=.c (.sl j n):=by exact rfl) (hr:hp j=some ⟨e,1,n,false,cs⟩:=by exact rfl) (hn:Nat.blt 0 n=true:=by exact rfl) (hs:cs.all scC=true:=by exact rfl) :
 WalkO P ops Q C false [] i (⟨some t,.convert T T xo,ty,ps,af,gd⟩:Oper) r ⟨tm,hp,gn,us,L⟩:=⟨fun hop=>by
 refine⟨_,⟨[j],[(j,none)],[],.c (.ro n 1 cs)⟩,hop,?_,fun n hn=>absurd hn List.not_mem_nil,ep (by exact bv),?_⟩
 ·intro τ a w ha hsim K hK
  obtain⟨φ,F,St,hsim⟩:=hsim
  have e1:τ.ev xo=.c (.sl j n):=by rw [ha.ev xo (by show xo∈#[xo];simp)];exact hx
  have e2:τ.hp j=some ⟨e,1,n,false,cs⟩:=by rw [ha.hp j mcs];exact hr
  have v1:=hsim.ev xo
  rw [e1] at v1
  simp only [VR,CR] at v1
  obtain⟨-,k1,k2,A,c,k3⟩:=v1
  obtain⟨-,hrow⟩:=hsim.row j _ e2
  rw [k2] at hrow
  obtain⟨-,vs,fs,g1,g2,g3⟩:=hrow
  have hn':0<n:=d4 hn
  obtain⟨hl,⟨-,h0⟩|⟨b,cap,cur,hu,-,hh,hnc,hcm,hsz,htk⟩⟩:=g2
  ·dsimp only at h0;omega
  obtain⟨hfs,-⟩:=we (w':=w) (St':=St) (φ':=φ) (K':=τ.Kn) hs g1
  subst hfs
  rw [List.append_nil] at g3
  rw [hu] at g3
  have hob:obl (Value.slice (some ⟨b,0,none⟩) n cap)=[b]:=rfl
  dsimp only at hnc hsz htk hl hh
  have hbF:b∈F j:=by rw [g3];exact mcs
  have hfree:=hsim.free e2 hbF
  obtain⟨w1,w2⟩:=ud hh
  have hsim2:=(hsim.drop j).give hfree w2
  have hev:a.eval xo=.slice (some ⟨b,0,none⟩) n cap:=hu
  unfold wpOp
  rw [hop]
  have hw:=nT hsim (b:=true) (by rw [ha.gw];exact hg)
  simp only [hw,if_true]
  refine .inl ?_
  unfold Oper.wp
  have hrun:(execOp a.eval (⟨some t,.convert T T xo,ty,ps,af,gd⟩:Oper)).run P w=.ok (.value (.slice (some ⟨b,0,none⟩) n cap)) (w.freeze ⟨b,cur.size,none⟩ 1):=by
   unfold execOp
   have hrc:=wd (P:=P) (n:=n) (c:=cap) hT hE hh
   simp only [hev]
   simp [Sem.run_bind,hrc]
  rw [hrun]
  have hvr:VR (w.freeze ⟨b,cur.size,none⟩ 1) (fun x=>(St x∧x<w.heap.size)∨x=b) φ ({ τ with hp:=upd τ.hp j none }:AS).Kn (.c (.ro n 1 cs)) (.slice (some ⟨b,0,none⟩) n cap):=by
   simp only [VR,CR]
   refine⟨trivial,some ⟨b,0,none⟩,cap,rfl,⟨hnc,hcm,fun h=>by cases h⟩,?_,fun _=>⟨b,0,vs,rfl,.inr rfl,(Array.getElem?_eq_some_iff.1 w1).1,fun q y hq=>?_,?_⟩⟩
   ·rw [←g1.len];omega
   ·have hq2:cur[q]? = some y:=by
     rw [←htk] at hq
     rw [List.getElem?_take] at hq
     split at hq
     ·rwa [Array.getElem?_toList] at hq
     ·cases hq
    rw [Nat.zero_add]
    unfold World.cell?
    rw [w1]
    exact hq2
   ·exact (we hs g1).2
  have h7:=hsim2.put (some t) hvr
  exact hK _ _ ⟨φ,F,_,h7⟩
 ·refine cQ ?_
  show Walk P ops Q C false [] r (AS.put _ (some t) _)
  rw [d5 (by exact d4 ht)];exact h⟩
end
theorem eo {p:Prop}(h:p:=by refine am ?_;refine bA rfl aJ ⟨?_,rfl⟩;rfl):p:=h
theorem tdy0 {p:Prop}(h:p:=by repeat' (first|exact TmOk.nil|exact RwOk.nil|refine TmOk.cons ?_ ?_|refine RwOk.cons ?_ ?_|rfl|(refine rnV_id' rfl ?_;exact byc)|(refine cK ?_;first|rfl|omega|(rw [bB omq omq];omega))|(refine bg rfl ?_;exact byc)|exact dP rfl rfl|(refine rw_mid rqf rqf ?_ ?_<;>exact byc)|(refine rw_rn' rfl rfl ?_;simp;done))):p:=h
def ic (c:Nat):Bool:=decide (97≤c)&&decide (c≤122)
def ldB (c:Nat):Bool:=ic c||cW c
def plB (b c:Nat):Bool:=decide (32≤c)&&(decide (c≤126)&&decide (c≠b))
def kD (p:Nat→Bool)(s:ByteArray):Bool:=decide (∀j,j<s.size→p (bAt s j)=true)
def bL (p:Nat→Bool)(s:ByteArray):Nat→Nat→Nat
 | 0,a=>a
 | f+1,a=>if a<s.size∧p (bAt s a)=true then bL p s f (a+1) else a
def d8 (s:ByteArray):Bool:=decide (1≤s.size)&&(decide (s.size≤8)&&(ic (bAt s 0)&&kD ldB s))
def dE (b:Nat)(s:ByteArray):Bool:=decide (s.size≤200)&&kD (plB b) s
theorem gt {p:Nat→Bool}{s:ByteArray}(h:∀j,j<s.size→p (bAt s j)=true):kD p s=true:=decide_eq_true h
theorem kc {p:Nat→Bool}{s:ByteArray}{j:Nat}(h:j<s.size)(h2:p (bAt s j)=false):kD p s=false:=decide_eq_false fun hh=>by rw [hh j h] at h2;cases h2
theorem gu {p:Nat→Bool}{s:ByteArray}{f a:Nat}(h:a<s.size)(h2:p (bAt s a)=true):bL p s (f+1) a=bL p s f (a+1):=if_pos ⟨h,h2⟩
theorem fI {p:Nat→Bool}{s:ByteArray}{f a:Nat}(h:¬(a<s.size∧p (bAt s a)=true)):bL p s f a=a:=by
 cases f with
 | zero=>rfl
 | succ f=>exact if_neg h
theorem bP {p:Nat→Bool}{s:ByteArray}:∀(f a:Nat),a≤s.size→s.size≤a+f→a≤bL p s f a∧bL p s f a≤s.size∧(∀j,a≤j→j<bL p s f a→p (bAt s j)=true)∧(bL p s f a<s.size→p (bAt s (bL p s f a))=false)
 | 0,a,h1,h2=>⟨nlr _,h1,fun j h3 h4=>absurd h4 (by show ¬j<a;omega),fun h=>absurd h (by show ¬a<s.size;omega)⟩
 | f+1,a,h1,h2=>by
  by_cases h:a<s.size∧p (bAt s a)=true
  ·have h0:=h.1
   rw [gu h.1 h.2]
   obtain⟨g1,g2,g3,g4⟩:=bP (p:=p) (s:=s) f (a+1) omq omq
   refine⟨omq,g2,fun j h3 h4=>?_,g4⟩
   by_cases e:j=a
   ·subst e;exact h.2
   ·exact g3 j omq h4
  ·rw [fI h]
   refine⟨nlr _,h1,fun j h3 h4=>by omega,fun h5=>?_⟩
   cases hb:p (bAt s a) with
   | false=>rfl
   | true=>exact absurd ⟨h5,hb⟩ h
theorem zl4 {p:Nat→Bool}{s:ByteArray}:decide ((bL p s s.size 0:Int)=(s.size:Int))=kD p s:=by
 obtain⟨g1,g2,g3,g4⟩:=bP (p:=p) (s:=s) s.size 0 (Nat.zero_le _) omq
 by_cases h:bL p s s.size 0=s.size
 ·rw [gt fun j hj=>g3 j (Nat.zero_le _) omq]
  simp [h]
 ·rw [kc (show bL p s s.size 0<s.size by omega) (g4 omq)]
  simp;omega
theorem gL (c:Nat):Ctr prog 66 [.c (.v (.int .u8 (c:Int)))] [] (.c (.v (.bool (ic c)))) []:=by
 refine az func66 rfl rfl ?_
 repeat' (first|refine ac ?_|refine aa fun C=>?_|refine ab ?_|(refine x_gm ?_ ?_<;>intro hG<;>(try cases hG))|refine cV ?_|refine iX ?_)
 all_goals
  (first|refine am ?_|skip);refine bA rfl aJ ⟨?_,rfl⟩;refine congrArg (fun s=>AV.c (AC.v (Value.bool s))) ?_
  unfold ic
  (rw [Bool.eq_iff_iff];(try simp only [baq,Bool.or_eq_true,bnt,dqt,dqn,beq_iff_eq,Bool.and_eq_false_iff,Bool.or_eq_false_iff,bne_iff_ne,ne_eq,Bool.true_eq_false,Bool.false_eq_true,true_iff,false_iff,iff_true,iff_false] at *);first|omega|(simp at *;omega))
theorem lV {c:Nat}(hc:c<256):Ctr prog 117 [.c (.v (.int .u8 (c:Int)))] [] (.c (.v (.bool (ic c)))) []:=by
 refine az func117 rfl rfl ?_
 repeat' (first|refine ac ?_|refine aa fun C=>?_|refine ab ?_|refine ph ?_|refine cV ?_|refine m0 (jc _ _ _) ?_)
 all_goals
  (first|refine am ?_|skip);refine bA rfl aJ ⟨?_,rfl⟩;refine congrArg (fun s=>AV.c (AC.v (Value.bool s))) ?_
  unfold ic inR
  (rw [Bool.eq_iff_iff];(try simp only [baq,Bool.or_eq_true,bnt,dqt,dqn,beq_iff_eq,Bool.and_eq_false_iff,Bool.or_eq_false_iff,bne_iff_ne,ne_eq,Bool.true_eq_false,Bool.false_eq_true,true_iff,false_iff,iff_true,iff_false] at *);first|omega|(simp at *;omega))
theorem kE {s:ByteArray}(hs:s.size≤1048576):Ctr prog 67 [.c (.v (.string s))] [] (.c (.v (.int .i64 (bL ldB s s.size 0:Nat)))) []:=by
 refine az func67 rfl rfl ?_
 repeat' (first|(apply ay;refine ai ?_)|refine aj ?_|refine ab ?_|refine aa fun C=>?_|refine ac ?_|refine ah ?_)
 refine aY (fun k:Nat=>⟨ft [(0,.c (.v (.string s))),(3,.c (.v (.int .i64 (k:Int))))],eW [],0,[],23⟩)
  (fun N k=>k+N=s.size∧bL ldB s s.size 0=bL ldB s N k) s.size 0 ⟨omq,rfl⟩ ?_ ?_
 ·(refine aL _ _ rfl rfl ?_ ?_<;>exact tdy0)
 rintro N k ⟨hN,hr⟩
 try dsimp only
 have c1:=gL (bAt s k)
 have c2:=fT (bAt s k)
 by_cases hk:k<s.size
 ·obtain⟨M,rfl⟩:∃M,N=M+1:=⟨N-1,omq⟩
  cases h1:ic (bAt s k) with
  | true =>
   rw [h1] at c1
   have hq:bL ldB s s.size 0=bL ldB s M (k+1):=by rw [hr,gu hk (by simp [ldB,h1])]
   repeat' (first|(apply ay;first|refine bH ?_|(refine aK ?_ ?_<;>intro hG<;>(try cases hG))|refine ak ?_|refine ai ?_|refine aH c1 ?_|refine a7 ?_|refine aA ?_|refine aw ?_|refine aB ?_|refine bV ?_)|refine aj ?_|refine ab ?_|refine aa fun C=>?_|refine ac ?_|refine ah ?_|refine al ?_|refine aE ?_|(refine ae rqf ?_ ?_<;>intro hC<;>(try cases hC)))
   all_goals first
    | (exfalso;simp only [dqt,dqn] at *;omega)
    | (refine⟨M,k+1,omq,⟨omq,hq⟩,?_⟩;(refine aL _ _ rfl rfl ?_ ?_<;>(repeat' (first|exact TmOk.nil|exact RwOk.nil|refine TmOk.cons ?_ ?_|refine RwOk.cons ?_ ?_|rfl|(refine rnV_id' rfl ?_;exact byc)|(refine cK ?_;first|rfl|omega|(rw [bB omq omq];omega))|(refine bg rfl ?_;exact byc)|exact dP rfl rfl|(refine rw_mid rqf rqf ?_ ?_<;>exact byc)|(refine rw_rn' rfl rfl ?_;simp;done)))))
  | false =>
   rw [h1] at c1
   cases h2:cW (bAt s k) with
   | true =>
    rw [h2] at c2
    have hq:bL ldB s s.size 0=bL ldB s M (k+1):=by rw [hr,gu hk (by simp [ldB,h2])]
    repeat' (first|(apply ay;first|refine bH ?_|(refine aK ?_ ?_<;>intro hG<;>(try cases hG))|refine ak ?_|refine ai ?_|refine aH c1 ?_|refine aH c2 ?_|refine a7 ?_|refine aA ?_|refine aw ?_|refine aB ?_|refine bV ?_)|refine aj ?_|refine ab ?_|refine aa fun C=>?_|refine ac ?_|refine ah ?_|refine al ?_|refine aE ?_|(refine ae rqf ?_ ?_<;>intro hC<;>(try cases hC)))
    all_goals first
     | (exfalso;simp only [dqt,dqn] at *;omega)
     | (refine⟨M,k+1,omq,⟨omq,hq⟩,?_⟩;(refine aL _ _ rfl rfl ?_ ?_<;>(repeat' (first|exact TmOk.nil|exact RwOk.nil|refine TmOk.cons ?_ ?_|refine RwOk.cons ?_ ?_|rfl|(refine rnV_id' rfl ?_;exact byc)|(refine cK ?_;first|rfl|omega|(rw [bB omq omq];omega))|(refine bg rfl ?_;exact byc)|exact dP rfl rfl|(refine rw_mid rqf rqf ?_ ?_<;>exact byc)|(refine rw_rn' rfl rfl ?_;simp;done)))))
   | false =>
    rw [h2] at c2
    rw [hr,fI fun h=>by simp [ldB,h1,h2] at h]
    repeat' (first|(apply ay;first|refine bH ?_|(refine aK ?_ ?_<;>intro hG<;>(try cases hG))|refine ak ?_|refine ai ?_|refine aH c1 ?_|refine aH c2 ?_|refine a7 ?_|refine aA ?_|refine aB ?_|refine bV ?_)|refine aj ?_|refine ab ?_|refine aa fun C=>?_|refine ac ?_|refine aE ?_|(refine ae rqf ?_ ?_<;>intro hC<;>(try cases hC)))
    all_goals first
     | (exfalso;simp only [dqt,dqn] at *;omega)
     | (refine am ?_;refine bA rfl aJ ⟨?_,rfl⟩;rfl)
 ·rw [hr,fI fun h=>hk h.1]
  repeat' (first|(apply ay;first|refine bH ?_|(refine aK ?_ ?_<;>intro hG<;>(try cases hG))|refine ak ?_|refine ai ?_|refine aH c1 ?_|refine aH c2 ?_|refine a7 ?_|refine aA ?_|refine aw ?_|refine aB ?_|refine bV ?_)|refine aj ?_|refine ab ?_|refine aa fun C=>?_|refine ac ?_|refine ah ?_|refine al ?_|refine aE ?_|(refine ae rqf ?_ ?_<;>intro hC<;>(try cases hC)))
  all_goals first
   | (exfalso;simp only [dqt,dqn] at *;omega)
   | (refine am ?_;refine bA rfl aJ ⟨?_,rfl⟩;rfl)
theorem ze {s:ByteArray}(hs:s.size≤1048576):Ctr prog 109 [.c (.v (.string s))] [] (.c (.v (.bool (d8 s)))) []:=by
 have cw:=iN (s.size:Int) 1 8
 have c1:=gL (bAt s 0)
 have c2:=kE hs
 by_cases hb:1≤s.size∧s.size≤8
 ·rw [show inR (s.size:Int) 1 8=true by simp [inR];omega] at cw
  cases h1:ic (bAt s 0) with
  | true =>
   rw [h1] at c1
   rw [show d8 s=decide ((bL ldB s s.size 0:Int)=(s.size:Int)) by rw [zl4];simp [d8,hb,h1]]
   refine az func109 rfl rfl ?_
   repeat' (first|(apply ay;first|(refine aK ?_ ?_<;>intro hG<;>(try cases hG))|refine ak ?_|refine ai ?_|refine aH cw ?_|refine aH c1 ?_|refine aH c2 ?_|refine a7 ?_|refine ao ?_|refine aB ?_|refine bV ?_)|refine aj ?_|refine ab ?_|refine aa fun C=>?_|refine ac ?_)
   exact eo
  | false =>
   rw [h1] at c1
   rw [show d8 s=false by simp [d8,h1]]
   refine az func109 rfl rfl ?_
   repeat' (first|(apply ay;first|refine bH ?_|(refine aK ?_ ?_<;>intro hG<;>(try cases hG))|refine ak ?_|refine ai ?_|refine aH cw ?_|refine aH c1 ?_|refine a7 ?_|refine aB ?_|refine bV ?_)|refine aj ?_|refine ab ?_|refine aa fun C=>?_|refine ac ?_)
   exact eo
 ·rw [show inR (s.size:Int) 1 8=false by simp [inR];omega] at cw
  rw [show d8 s=false by simp [d8];omega]
  refine az func109 rfl rfl ?_
  repeat' (first|(apply ay;first|refine bH ?_|(refine aK ?_ ?_<;>intro hG<;>(try cases hG))|refine ak ?_|refine ai ?_|refine aH cw ?_|refine a7 ?_|refine aB ?_)|refine aj ?_|refine ab ?_|refine aa fun C=>?_|refine ac ?_)
  exact eo
theorem sj {s:ByteArray}(hs:s.size≤1048576):Ctr prog 106 [.c (.v (.string s))] [] (.c (.v (.bool (d8 s)))) []:=by
 refine az func106 rfl rfl ?_
 repeat' (first|(apply ay;refine ai ?_)|refine aj ?_|refine ab ?_|refine aa fun C=>?_|refine ac ?_|refine ah ?_)
 refine aY (fun k:Nat=>⟨ft [(0,.c (.v (.string s))),(3,.c (.v (.int .i64 (k:Int))))],eW [],0,[],29⟩)
  (fun N k=>k+N=s.size∧(∀j,j<k→ldB (bAt s j)=true)∧(0<k→ic (bAt s 0)=true)) s.size 0 ⟨omq,fun j hj=>absurd hj (Nat.not_lt_zero j),fun h=>absurd h (Nat.lt_irrefl 0)⟩ ?_ ?_
 ·(refine aL _ _ rfl rfl ?_ ?_<;>exact tdy0)
 rintro N k ⟨hN,hr,hr0⟩
 try dsimp only
 have c1:=lV (cZ s k)
 have c2:=iv (cZ s k)
 have c3:=jc (s.size:Int) 1 8
 repeat' (first|(apply ay;first|refine ak ?_|refine a7 ?_|refine aA ?_)|refine aj ?_|refine ab ?_|refine aa fun C=>?_|refine ac ?_)
 refine ae rqf (fun hk=>?_) fun hk=>?_
 ·have hk':k<s.size:=by simpa using hk
  cases h1:ic (bAt s k) with
  | true =>
   rw [h1] at c1
   repeat' (first|(apply ay;first|refine bH ?_|(refine aK ?_ ?_<;>intro hG<;>(try cases hG))|refine ak ?_|refine ai ?_|refine aH c1 ?_|refine aw ?_|refine bI ?_|refine aB ?_|refine bV ?_)|refine aj ?_|refine ab ?_|refine aa fun C=>?_|refine ac ?_|refine ah ?_|refine al ?_|refine ar rfl ?_)
   refine⟨N-1,k+1,omq,⟨omq,fun j hj=>?_,fun _=>?_⟩,?_⟩
   ·by_cases e:j=k
    ·subst e;simp [ldB,h1]
    ·exact hr j omq
   ·by_cases e:k=0
    ·subst e;exact h1
    ·exact hr0 omq
   ·(refine aL _ _ rfl rfl ?_ ?_<;>exact tdy0)
  | false =>
   rw [h1] at c1
   by_cases h0:k=0
   ·subst h0
    rw [show d8 s=false by simp [d8,h1]]
    repeat' (first|(apply ay;first|refine bH ?_|(refine aK ?_ ?_<;>intro hG<;>(try cases hG))|refine ak ?_|refine ai ?_|refine aH c1 ?_|refine ao ?_|refine bI ?_|refine aB ?_|refine bV ?_)|refine aj ?_|refine ab ?_|refine aa fun C=>?_|refine ac ?_|refine ah ?_|refine al ?_|refine aq rfl ?_)
    exact eo
   ·cases h2:cW (bAt s k) with
    | true =>
     rw [h2] at c2
     repeat' (first|(apply ay;first|refine bH ?_|(refine aK ?_ ?_<;>intro hG<;>(try cases hG))|refine ak ?_|refine ai ?_|refine aH c1 ?_|refine aH c2 ?_|refine ao ?_|refine aw ?_|refine bI ?_|refine aB ?_|refine bV ?_)|refine aj ?_|refine ab ?_|refine aa fun C=>?_|refine ac ?_|refine ah ?_|refine al ?_|(refine ae rqf ?_ ?_<;>intro hC<;>(try cases hC)))
     all_goals first
      | (refine absurd hG ?_;simp;omega)
      | (refine⟨N-1,k+1,omq,⟨omq,fun j hj=>?_,fun _=>hr0 omq⟩,?_⟩
         ·by_cases e:j=k
          ·subst e;simp [ldB,h2]
          ·exact hr j omq
         ·(refine aL _ _ rfl rfl ?_ ?_<;>(repeat' (first|exact TmOk.nil|exact RwOk.nil|refine TmOk.cons ?_ ?_|refine RwOk.cons ?_ ?_|rfl|(refine rnV_id' rfl ?_;exact byc)|(refine cK ?_;first|rfl|omega|(rw [bB omq omq];omega))|(refine bg rfl ?_;exact byc)|exact dP rfl rfl|(refine rw_mid rqf rqf ?_ ?_<;>exact byc)|(refine rw_rn' rfl rfl ?_;simp;done)))))
    | false =>
     rw [h2] at c2
     rw [show d8 s=false by simp [d8,kc hk' (show ldB (bAt s k)=false by simp [ldB,h1,h2])]]
     repeat' (first|(apply ay;first|refine bH ?_|(refine aK ?_ ?_<;>intro hG<;>(try cases hG))|refine ak ?_|refine ai ?_|refine aH c1 ?_|refine aH c2 ?_|refine ao ?_|refine bI ?_|refine aB ?_|refine bV ?_)|refine aj ?_|refine ab ?_|refine aa fun C=>?_|refine ac ?_|refine ah ?_|refine al ?_|(refine ae rqf ?_ ?_<;>intro hC<;>(try cases hC)))
     all_goals first
      | (refine absurd hG ?_;simp;omega)
      | (refine am ?_;refine bA rfl aJ ⟨?_,rfl⟩;rfl)
 ·have hk':¬k<s.size:=by simpa using hk
  have ha:kD ldB s=true:=gt fun j hj=>hr j omq
  have hk2:k=s.size:=by omega
  rw [show d8 s=inR (s.size:Int) 1 8 by
   by_cases hz:0<s.size
   ·have e0:=hr0 omq
    simp only [d8,ha,e0,inR,Bool.and_true]
    congr 1<;>(apply decide_eq_decide.2;omega)
   ·have e1:decide (1≤s.size)=false:=decide_eq_false omq
    have e2:decide ((1:Int)≤(s.size:Int))=false:=decide_eq_false omq
    simp only [d8,inR,e1,e2,Bool.false_and]]
  repeat' (first|(apply ay;first|refine ak ?_|refine ai ?_|refine aH c3 ?_|refine a7 ?_)|refine aj ?_|refine ab ?_|refine aa fun C=>?_|refine ac ?_|refine aE ?_)
  exact eo
theorem pj {s:ByteArray}(hs:s.size≤1048576){b:Nat}(hb:b<256):Ctr prog 98 [.c (.v (.string s)),.c (.v (.int .u8 (b:Int)))] [] (.c (.v (.bool (kD (plB b) s)))) []:=by
 refine az func98 rfl rfl ?_
 repeat' (first|(apply ay;refine ai ?_)|refine aj ?_|refine ab ?_|refine aa fun C=>?_|refine ac ?_|refine ah ?_)
 refine aY (fun k:Nat=>⟨ft [(0,.c (.v (.string s))),(1,.c (.v (.int .u8 (b:Int)))),(5,.c (.v (.int .i64 (k:Int))))],eW [],0,[],25⟩)
  (fun N k=>k+N=s.size∧∀j,j<k→plB b (bAt s j)=true) s.size 0 ⟨omq,fun j hj=>absurd hj (Nat.not_lt_zero j)⟩ ?_ ?_
 ·(refine aL _ _ rfl rfl ?_ ?_<;>exact tdy0)
 rintro N k ⟨hN,hr⟩
 try dsimp only
 have hlt:=cZ s k
 have c1:=iN (bAt s k:Int) 32 126
 repeat' (first|(apply ay;first|refine ak ?_|refine a7 ?_|refine aA ?_)|refine aj ?_|refine ab ?_|refine aa fun C=>?_|refine ac ?_)
 refine ae rqf (fun hk=>?_) fun hk=>?_
 ·have hk':k<s.size:=by simpa using hk
  by_cases h1:32≤bAt s k∧bAt s k≤126
  ·rw [show inR (bAt s k:Int) 32 126=true by simp [inR];omega] at c1
   repeat' (first|(apply ay;first|(refine aK ?_ ?_<;>intro hG<;>(try cases hG))|refine ak ?_|refine aH c1 ?_|refine aR ?_|refine bI ?_|refine aB ?_|refine dc ?_|refine bV ?_)|refine aj ?_|refine ab ?_|refine aa fun C=>?_|refine ac ?_|refine ah ?_|refine al ?_)
   refine ae rqf (fun hC=>?_) fun hC=>?_
   ·have e:bAt s k=b:=by have:=eq_of_beq hC;omega
    rw [kc hk' (show plB b (bAt s k)=false by simp [plB,e])]
    repeat' (first|(apply ay;refine ai ?_)|refine aj ?_|refine ab ?_|refine aa fun C=>?_|refine ac ?_)
    exact eo
   ·have e:bAt s k≠b:=by have:=ne_of_beq_false hC;omega
    repeat' (first|(apply ay;first|refine ak ?_|refine ai ?_|refine aw ?_)|refine aj ?_|refine ab ?_|refine aa fun C=>?_|refine al ?_)
    refine⟨N-1,k+1,omq,⟨omq,fun j hj=>?_⟩,?_⟩
    ·by_cases e2:j=k
     ·subst e2;simp [plB,h1,e]
     ·exact hr j omq
    ·(refine aL _ _ rfl rfl ?_ ?_<;>exact tdy0)
  ·rw [show inR (bAt s k:Int) 32 126=false by simp [inR];omega] at c1
   rw [kc hk' (show plB b (bAt s k)=false by simp [plB];omega)]
   repeat' (first|(apply ay;first|refine bH ?_|(refine aK ?_ ?_<;>intro hG<;>(try cases hG))|refine ak ?_|refine ai ?_|refine aH c1 ?_|refine bI ?_|refine aB ?_|refine dc ?_|refine bV ?_)|refine aj ?_|refine ab ?_|refine aa fun C=>?_|refine ac ?_|refine ah ?_|refine al ?_|refine aq rfl ?_)
   exact eo
 ·have hk':¬k<s.size:=by simpa using hk
  rw [gt fun j hj=>hr j omq]
  repeat' (first|(apply ay;refine ai ?_)|refine aj ?_|refine ab ?_|refine aa fun C=>?_|refine ac ?_|refine aE ?_)
  exact eo
theorem lW {s:ByteArray}(hs:s.size≤1048576){b:Nat}(hb:b<256):Ctr prog 73 [.c (.v (.string s)),.c (.v (.int .u8 (b:Int)))] [] (.c (.v (.bool (dE b s)))) []:=by
 refine az func73 rfl rfl ?_
 repeat' (first|(apply ay;refine ai ?_)|refine aj ?_|refine ab ?_|refine aa fun C=>?_|refine ac ?_|refine ah ?_)
 refine aY (fun k:Nat=>⟨ft [(0,.c (.v (.string s))),(1,.c (.v (.int .u8 (b:Int)))),(5,.c (.v (.int .i64 (k:Int))))],eW [],0,[],28⟩)
  (fun N k=>k+N=s.size∧∀j,j<k→plB b (bAt s j)=true) s.size 0 ⟨omq,fun j hj=>absurd hj (Nat.not_lt_zero j)⟩ ?_ ?_
 ·(refine aL _ _ rfl rfl ?_ ?_<;>exact tdy0)
 rintro N k ⟨hN,hr⟩
 try dsimp only
 have hlt:=cZ s k
 have c1:=jc (bAt s k:Int) 32 126
 repeat' (first|(apply ay;first|refine ak ?_|refine a7 ?_|refine aA ?_)|refine aj ?_|refine ab ?_|refine aa fun C=>?_|refine ac ?_)
 refine ae rqf (fun hk=>?_) fun hk=>?_
 ·have hk':k<s.size:=by simpa using hk
  by_cases h1:32≤bAt s k∧bAt s k≤126
  ·rw [show inR (bAt s k:Int) 32 126=true by simp [inR];omega] at c1
   repeat' (first|(apply ay;first|(refine aK ?_ ?_<;>intro hG<;>(try cases hG))|refine ak ?_|refine aH c1 ?_|refine aR ?_|refine bI ?_|refine aB ?_|refine dc ?_|refine bV ?_)|refine aj ?_|refine ab ?_|refine aa fun C=>?_|refine ac ?_|refine ah ?_|refine al ?_)
   refine ae rqf (fun hC=>?_) fun hC=>?_
   ·have e:bAt s k=b:=by have:=eq_of_beq hC;omega
    rw [show dE b s=false by simp [dE,kc hk' (show plB b (bAt s k)=false by simp [plB,e])]]
    repeat' (first|(apply ay;refine ai ?_)|refine aj ?_|refine ab ?_|refine aa fun C=>?_|refine ac ?_)
    exact eo
   ·have e:bAt s k≠b:=by have:=ne_of_beq_false hC;omega
    repeat' (first|(apply ay;first|refine ak ?_|refine ai ?_|refine aw ?_)|refine aj ?_|refine ab ?_|refine aa fun C=>?_|refine al ?_)
    refine⟨N-1,k+1,omq,⟨omq,fun j hj=>?_⟩,?_⟩
    ·by_cases e2:j=k
     ·subst e2;simp [plB,h1,e]
     ·exact hr j omq
    ·(refine aL _ _ rfl rfl ?_ ?_<;>exact tdy0)
  ·rw [show inR (bAt s k:Int) 32 126=false by simp [inR];omega] at c1
   rw [show dE b s=false by simp [dE,kc hk' (show plB b (bAt s k)=false by simp [plB];omega)]]
   repeat' (first|(apply ay;first|refine bH ?_|(refine aK ?_ ?_<;>intro hG<;>(try cases hG))|refine ak ?_|refine ai ?_|refine aH c1 ?_|refine bI ?_|refine aB ?_|refine dc ?_|refine bV ?_)|refine aj ?_|refine ab ?_|refine aa fun C=>?_|refine ac ?_|refine ah ?_|refine al ?_|refine aq rfl ?_)
   exact eo
 ·have hk':¬k<s.size:=by simpa using hk
  rw [show dE b s=decide (s.size≤200) by simp [dE,gt fun j (hj:j<s.size)=>hr j omq]]
  repeat' (first|(apply ay;first|refine ak ?_|refine ai ?_|refine a7 ?_|refine bp ?_)|refine aj ?_|refine ab ?_|refine aa fun C=>?_|refine ac ?_|refine aE ?_)
  (first|refine am ?_|skip);refine bA rfl aJ ⟨?_,rfl⟩;refine congrArg (fun s=>AV.c (AC.v (Value.bool s))) ?_
  (rw [Bool.eq_iff_iff];(try simp only [baq,Bool.or_eq_true,bnt,dqt,dqn,beq_iff_eq,Bool.and_eq_false_iff,Bool.or_eq_false_iff,bne_iff_ne,ne_eq,Bool.true_eq_false,Bool.false_eq_true,true_iff,false_iff,iff_true,iff_false] at *);first|omega|(simp at *;omega))
theorem sk {s:ByteArray}(hs:s.size≤1048576):Ctr prog 68 [.c (.v (.string s))] [] (.c (.v (.bool (dE 39 s)))) []:=by
 have c1:=pj hs (b:=39) omq
 refine az func68 rfl rfl ?_
 repeat' (first|(apply ay;first|refine bH ?_|(refine aK ?_ ?_<;>intro hG<;>(try cases hG))|refine ak ?_|refine ai ?_|refine aH c1 ?_|refine a7 ?_|refine bp ?_|refine aB ?_)|refine aj ?_|refine ab ?_|refine aa fun C=>?_|refine ac ?_)
 all_goals
  (first|refine am ?_|skip);refine bA rfl aJ ⟨?_,rfl⟩;refine congrArg (fun s=>AV.c (AC.v (Value.bool s))) ?_
  unfold dE
  (rw [Bool.eq_iff_iff];(try simp only [baq,Bool.or_eq_true,bnt,dqt,dqn,beq_iff_eq,Bool.and_eq_false_iff,Bool.or_eq_false_iff,bne_iff_ne,ne_eq,Bool.true_eq_false,Bool.false_eq_true,true_iff,false_iff,iff_true,iff_false] at *);first|omega|(simp at *;omega))
theorem qD {s:ByteArray}(hs:s.size≤1048576):Ctr prog 62 [.c (.v (.string s))] [] (.c (.v (.bool (decide (1≤s.size)&&dE 47 s)))) []:=by
 have c1:=pj hs (b:=47) omq
 have cw:=iN (s.size:Int) 1 200
 by_cases hb:1≤s.size∧s.size≤200
 ·rw [show inR (s.size:Int) 1 200=true by simp [inR];omega] at cw
  rw [show (decide (1≤s.size)&&dE 47 s)=kD (plB 47) s by simp [dE,hb]]
  refine az func62 rfl rfl ?_
  repeat' (first|(apply ay;first|(refine aK ?_ ?_<;>intro hG<;>(try cases hG))|refine ak ?_|refine ai ?_|refine aH c1 ?_|refine aH cw ?_|refine a7 ?_|refine aB ?_)|refine aj ?_|refine ab ?_|refine aa fun C=>?_|refine ac ?_)
  exact eo
 ·rw [show inR (s.size:Int) 1 200=false by simp [inR];omega] at cw
  rw [show (decide (1≤s.size)&&dE 47 s)=false by simp [dE];omega]
  refine az func62 rfl rfl ?_
  repeat' (first|(apply ay;first|refine bH ?_|(refine aK ?_ ?_<;>intro hG<;>(try cases hG))|refine ak ?_|refine ai ?_|refine aH cw ?_|refine a7 ?_|refine aB ?_)|refine aj ?_|refine ab ?_|refine aa fun C=>?_|refine ac ?_)
  exact eo
end Go.Proofs.YtomolhbkdhjofaaGreatDoor
namespace Go.Proofs.YtomolhbkdhjofaaGreatDoor
open Go.RowKit Go.Shelf Go.Proofs.Tryz
def pk:Go.Shelf.Ren:=⟨fun|171=>65|243=>101|246=>130|283=>142|284=>143|285=>144|286=>145|129=>159|317=>158|318=>160|319=>161|320=>162|337=>175|338=>176|n=>n,fun|3=>3|9=>9|2=>2|4=>4|171=>147|0=>0|53=>141|37=>22|5=>5|173=>150|212=>165|51=>166|20=>20|213=>167|46=>104|232=>175|233=>176|n=>n,fun|17=>3|18=>4|19=>5|n=>n⟩
theorem zf:Go.Proofs.LaysM.n171 prog pk:={
 mixed:=by kernel_rfl
 f129:=func159.trans (congrArg some krq)
 f171:=func65.trans (congrArg some krq)
 f243:=func101.trans (congrArg some krq)
 f246:=func130.trans (congrArg some krq)
 f283:=func142.trans (congrArg some krq)
 f284:=func143.trans (congrArg some krq)
 f285:=func144.trans (congrArg some krq)
 f286:=func145.trans (congrArg some krq)
 f317:=func158.trans (congrArg some krq)
 f318:=func160.trans (congrArg some krq)
 f319:=func161.trans (congrArg some krq)
 f320:=func162.trans (congrArg some krq)
 f337:=func175.trans (congrArg some krq)
 f338:=func176.trans (congrArg some krq)
 t0:=underlying0
 a0:=Tryz.isAgg0
 z0:=Tryz.sizeOf0
 v0:=Tryz.zeroValue0
 t2:=underlying2
 a2:=Tryz.isAgg2
 z2:=Tryz.sizeOf2
 v2:=Tryz.zeroValue2
 t3:=underlying3
 a3:=Tryz.isAgg3
 z3:=Tryz.sizeOf3
 v3:=Tryz.zeroValue3
 t4:=underlying4
 a4:=Tryz.isAgg4
 z4:=Tryz.sizeOf4
 v4:=Tryz.zeroValue4
 t5:=underlying5
 a5:=Tryz.isAgg5
 z5:=Tryz.sizeOf5
 v5:=Tryz.zeroValue5
 t9:=underlying9
 a9:=Tryz.isAgg9
 z9:=Tryz.sizeOf9
 v9:=Tryz.zeroValue9
 t20:=underlying20
 a20:=Tryz.isAgg20
 z20:=Tryz.sizeOf20
 v20:=Tryz.zeroValue20
 t37:=underlying22
 a37:=Tryz.isAgg22
 z37:=Tryz.sizeOf22
 v37:=Tryz.zeroValue22
 t46:=underlying104
 a46:=Tryz.isAgg104
 z46:=Tryz.sizeOf104
 v46:=Tryz.zeroValue104
 t51:=underlying166
 a51:=Tryz.isAgg166
 z51:=Tryz.sizeOf166
 v51:=Tryz.zeroValue166
 t53:=underlying141
 a53:=Tryz.isAgg141
 z53:=Tryz.sizeOf141
 v53:=Tryz.zeroValue141
 t171:=underlying147
 a171:=Tryz.isAgg147
 z171:=Tryz.sizeOf147
 v171:=Tryz.zeroValue147
 t173:=underlying150
 a173:=Tryz.isAgg150
 z173:=Tryz.sizeOf150
 v173:=Tryz.zeroValue150
 t212:=underlying165
 a212:=Tryz.isAgg165
 z212:=Tryz.sizeOf165
 v212:=Tryz.zeroValue165
 t213:=underlying167
 a213:=Tryz.isAgg167
 z213:=Tryz.sizeOf167
 t232:=underlying175
 a232:=Tryz.isAgg175
 z232:=Tryz.sizeOf175
 v232:=Tryz.zeroValue175
 t233:=underlying176
 a233:=Tryz.isAgg176
 z233:=Tryz.sizeOf176
 v233:=Tryz.zeroValue176
 g17:=by kernel_rfl
 g18:=by kernel_rfl
 g19:=by kernel_rfl
 i0:=by kernel_rfl
 i2:=by kernel_rfl
 i3:=by kernel_rfl
 i4:=by kernel_rfl
 i5:=by kernel_rfl
 i9:=by kernel_rfl
 i20:=by kernel_rfl
 i37:=by kernel_rfl
 i46:=by kernel_rfl
 i51:=by kernel_rfl
 i53:=by kernel_rfl
 i171:=by kernel_rfl
 i173:=by kernel_rfl
 i212:=by kernel_rfl
 i232:=by kernel_rfl
 i233:=by kernel_rfl
 m17:=by kernel_rfl
 m18:=by kernel_rfl
 m19:=by kernel_rfl }
theorem lX {P:Program}{f:FuncId}{ins:List AV}{us:List Value}{v:Value}(he:yC P f=true)(hv:qg v=true)(hin:∀(w:World) (St:Nat→Prop) (φ:Nat→Lc) (K:Nat→Prop) (us':List Value),VRL w St φ K ins us'→us'=us)
 (hc:∀w,Gl w→Calls P f us.toArray w fun e w'=>e=.returned v∧Below w.heap.size w w'):Ctr P f ins [] (.c (.v v)) []:=by
 refine⟨he,fun w St φ F us' hent=>?_⟩
 obtain rfl:=hin _ _ _ _ _ hent.args
 refine (hc w hent.gl.1).mono ?_
 rintro e w' ⟨rfl,hb⟩
 refine⟨_,_,v,fun _=>False,fun _=>[],[],⟨rfl,rfl⟩,rfl,⟨⟨hb.os,hb.tape,hb.output,hb.size,fun b hlt _=>.inl (hb.block b hlt)⟩,?_,by simp,rfl,fun i cs hi=>by simp at hi,fun i hi=>by simp at hi,fun i hi=>by simp at hi,fun i j hi=>by simp at hi,fun i b lo hi=>by simp at hi,fun b hb=>by simp at hb,fun b hb=>hb.elim⟩⟩
 simp only [VRF,CR]
 exact⟨trivial,hv,trivial⟩
def iO (n:Int):ByteArray:=⟨(Lib.itoa n).toArray⟩
theorem pm {n:Int}(h0 : -9223372036854775808≤n)(h1:n≤9223372036854775807):Ctr prog 65 [.c (.v (.int .i64 n))] [] (.c (.v (.string (iO n)))) []:=by
 refine lX (us:=[.int .i64 n]) krq rfl (fun w St φ K us' h=>?_) fun w gw=>?_
 ·simp only [VRL,VR,CR] at h
  obtain⟨u,us1,rfl,⟨rfl,-⟩,rfl⟩:=h
  rfl
 ·refine (Go.Proofs.Any.strconv_Itoa zf n h0 h1 w (uZ gw)).mono ?_
  rintro e w' ⟨rfl,k,os,rfl⟩
  refine⟨rfl,rfl,rfl,rfl,by simp [Sort.grow],fun j hj=>?_⟩
  simp only [Sort.grow,World.heap_drewN]
  rw [Array.getElem?_append_left hj]
theorem zg {n:Int}(h0 : -9223372036854775808≤n)(h1:n≤9223372036854775807):Ctr prog 44 [.c (.v (.int .i64 n))] [] (.c (.v (.string (iO n)))) []:=by
 have hc:=pm h0 h1
 refine az func44 rfl rfl ?_
 repeat' (first|refine ac ?_|refine aa fun C=>?_|refine ab ?_|refine cV ?_|refine x_cal ?_)
 refine am ?_
 exact bA rfl aJ ⟨rfl,rfl⟩
end Go.Proofs.YtomolhbkdhjofaaGreatDoor
namespace Go.Proofs.YtomolhbkdhjofaaGreatDoor
open Go.RowKit Go.Proofs.Tryz
theorem zh (k:Nat):(-(k:Int)).tdiv 10 = -((k / 10:Nat):Int):=by rw [Int.neg_tdiv];rfl
theorem zi (k:Nat):(-(k:Int)).tmod 10 = -((k % 10:Nat):Int):=by rw [Int.neg_tmod];rfl
theorem sm {k:Nat}(h:0<k):iO (-(k:Int))=⟨(45 :: Lib.decDigits k).toArray⟩:=by
 unfold iO Lib.itoa
 rw [if_pos omq]
 simp
theorem iP (k:Nat):iO (k:Int)=⟨(Lib.decDigits k).toArray⟩:=by
 unfold iO Lib.itoa
 rw [if_neg omq]
 simp
theorem jj {k:Nat}(h:¬k<10):Lib.decDigits k=Lib.decDigits (k / 10)++[UInt8.ofNat (48+k % 10)]:=by
 rw [Lib.decDigits,dif_neg h]
theorem eN {k:Nat}(h:k<10):Lib.decDigits k=[UInt8.ofNat (48+k)]:=by
 rw [Lib.decDigits,dif_pos h]
theorem qE {n:Int}(h0 : -9223372036854775808≤n)(h1:n≤9223372036854775807):(iO n).size≤20:=by
 have key:∀(f k:Nat),k<10 ^ (f+1)→(Lib.decDigits k).length≤f+1:=by
  intro f
  induction f with
  | zero=>intro k hk;rw [eN (by simpa using hk)];simp
  | succ f ih =>
   intro k hk
   by_cases h:k<10
   ·rw [eN h];simp
   ·rw [jj h,lla]
    have:=ih (k / 10) (by rw [Nat.pow_succ] at hk;omega)
    simp only [List.length_cons,List.length_nil];omega
 unfold iO Lib.itoa
 show (List.toArray _).size≤20
 rw [List.size_toArray]
 split
 ·have:=key 18 n.natAbs omq
  rw [List.length_cons];omega
 ·have:=key 18 n.toNat omq
  omega
theorem u8of {z:Int}{d:Nat}(e:z=((48+d:Nat):Int))(h:d<10):UInt8.ofNat (IntKind.u8.wrap (IntKind.i64.wrap z)).toNat=UInt8.ofNat (48+d):=by
 subst e
 rw [lj omq omq,IntKind.wrap_u8]
 have:(((48+d:Nat):Int) % 256).toNat=48+d:=by omega
 rw [this]
theorem cat45 (x:List UInt8)(b:UInt8):(ByteArray.mk #[45])++⟨x.toArray⟩++⟨[b].toArray⟩=⟨(45 :: (x++[b])).toArray⟩:=by
 rw [show (ByteArray.mk #[45])=⟨[45].toArray⟩ from rfl,ByteArray.mk_append_mk,ByteArray.mk_append_mk];rfl
theorem zm4 (m:Nat):∀n:Int,n.natAbs≤m→-9223372036854775808≤n→n≤9223372036854775807→Ctr prog 94 [.c (.v (.int .i64 n))] [] (.c (.v (.string (iO n)))) []:=by
 induction m using Nat.strongRecOn with
 | _ m ih =>
 intro n hm h0 h1
 rcases Int.lt_or_le n (-9) with h|h
 ·obtain⟨k,rfl⟩:∃k:Nat,n = -(k:Int):=⟨n.natAbs,omq⟩
  have hc:=ih (k / 10) omq ((k / 10:Nat):Int) omq omq omq
  clear ih
  have e1:IntKind.i64.wrap (0-IntKind.i64.wrap ((-(k:Int)).tdiv 10))=((k / 10:Nat):Int):=by
   rw [zh,lj (z := -((k / 10:Nat):Int)) omq omq,lj omq omq];omega
  have hc':Ctr prog 94 [.c (.v (.int .i64 (IntKind.i64.wrap (0-IntKind.i64.wrap ((-(k:Int)).tdiv 10)))))] [] (.c (.v (.string (iO ((k / 10:Nat):Int))))) []:=by rw [e1];exact hc
  clear hc
  refine az func94 rfl rfl ?_
  have hz:=qE (n:=((k / 10:Nat):Int)) omq omq
  repeat' (first|refine ac ?_|refine ah ?_|refine al ?_|refine aa fun C=>?_|refine av krq krq fun C=>?_|refine ab ?_|refine cV ?_|refine jr ?_|refine x_cat ?_|refine x_cal ?_|(refine dn rqf ?_ ?_<;>intro hC<;>(try cases hC)))
  all_goals first
   | (exfalso;clear hc' e1;simp at *;omega)
   | skip
  refine am ?_
  refine bA rfl aJ ⟨?_,rfl⟩
  refine congrArg (fun s=>AV.c (AC.v (Value.string s))) ?_
  rw [u8of (d:=k % 10) (by rw [zi];omega) omq,iP,cat45,sm omq,jj (k:=k) omq]
 ·rcases Int.lt_or_le n 0 with h2|h2
  ·obtain⟨k,rfl⟩:∃k:Nat,n = -(k:Int):=⟨n.natAbs,omq⟩
   clear ih
   refine az func94 rfl rfl ?_
   repeat' (first|refine ac ?_|refine ah ?_|refine al ?_|refine aa fun C=>?_|refine av krq krq fun C=>?_|refine ab ?_|refine cV ?_|refine jr ?_|(refine dn rqf ?_ ?_<;>intro hC<;>(try cases hC)))
   all_goals first
    | (exfalso;simp at *;omega)
    | skip
   refine am ?_
   refine bA rfl aJ ⟨?_,rfl⟩
   refine congrArg (fun s=>AV.c (AC.v (Value.string s))) ?_
   rw [u8of (d:=k) omq omq,sm omq,eN (k:=k) omq];rfl
  ·obtain⟨k,rfl⟩:∃k:Nat,n=(k:Int):=⟨n.natAbs,omq⟩
   rcases Nat.lt_or_ge k 10 with h3|h3
   ·clear ih
    refine az func94 rfl rfl ?_
    repeat' (first|refine ac ?_|refine ah ?_|refine al ?_|refine aa fun C=>?_|refine av krq krq fun C=>?_|refine ab ?_|refine cV ?_|refine jr ?_|(refine dn rqf ?_ ?_<;>intro hC<;>(try cases hC)))
    all_goals first
     | (exfalso;simp at *;omega)
     | skip
    refine am ?_
    refine bA rfl aJ ⟨?_,rfl⟩
    refine congrArg (fun s=>AV.c (AC.v (Value.string s))) ?_
    rw [u8of (d:=k) omq omq,iP,eN (k:=k) omq]
   ·have hc:=ih (k / 10) omq ((k / 10:Nat):Int) omq omq omq
    clear ih
    have e1:IntKind.i64.wrap ((k:Int).tdiv 10)=((k / 10:Nat):Int):=by
     rw [show ((k:Int).tdiv 10)=((k / 10:Nat):Int) from rfl,lj omq omq]
    have hc':Ctr prog 94 [.c (.v (.int .i64 (IntKind.i64.wrap ((k:Int).tdiv 10))))] [] (.c (.v (.string (iO ((k / 10:Nat):Int))))) []:=by rw [e1];exact hc
    clear hc
    refine az func94 rfl rfl ?_
    have hz:=qE (n:=((k / 10:Nat):Int)) omq omq
    repeat' (first|refine ac ?_|refine ah ?_|refine al ?_|refine aa fun C=>?_|refine av krq krq fun C=>?_|refine ab ?_|refine cV ?_|refine jr ?_|refine x_cat ?_|refine x_cal ?_|(refine dn rqf ?_ ?_<;>intro hC<;>(try cases hC)))
    all_goals first
     | (exfalso;clear hc' e1;simp at *;omega)
     | skip
    refine am ?_
    refine bA rfl aJ ⟨?_,rfl⟩
    refine congrArg (fun s=>AV.c (AC.v (Value.string s))) ?_
    rw [u8of (d:=k % 10) (by rw [show ((k:Int).tmod 10)=((k % 10:Nat):Int) from rfl];omega) omq,iP,iP,jj (k:=k) omq]
    exact ByteArray.mk_append_mk _ _
end Go.Proofs.YtomolhbkdhjofaaGreatDoor
