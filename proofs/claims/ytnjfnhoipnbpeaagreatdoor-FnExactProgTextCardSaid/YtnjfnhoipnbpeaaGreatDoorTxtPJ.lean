/- The machine: blocks given over to those that stand; the conversion of a literal's row of bytes, by which it stands from then on. -/
import Derived.Test.YtnjfnhoipnbpeaaGreatDoorTxtPI
namespace Go.Proofs.YtnjfnhoipnbpeaaGreatDoor
open Go.RowKit
set_option maxRecDepth 100000
section
variable {C:Ctx}{φ:Nat→Lc}{F:Nat→List Nat}{St:Nat→Prop}{σ:AS}{a:Act}{w w':World}
theorem SimF.give (h:SimF C φ F St σ a w){b:Nat}(hf:Free C φ F St σ b)(hs:Stp (some b) w w'):SimF C φ F (fun x=>(St x∧x<w.heap.size)∨x=b) σ a w':=by
 have hS:∀x,St x→x<w.heap.size→((St x∧x<w.heap.size)∨x=b)∧w'.heap[x]? = w.heap[x]? := fun x hx hl=>⟨.inl ⟨hx,hl⟩,hs.blk x hl fun e=>hf.2.1 (by injection e with e;exact e▸hx)⟩
 have hK:∀j,σ.Kn j→σ.Kn j∧φ j=φ j:=fun j hj=>⟨hj,rfl⟩
 refine⟨h.dfr,h.len,fun t=>VR.mono hS hs.size hK _ _ (h.tms t),fun j s hj=>⟨(h.row j s hj).1,?_⟩,h.nod,h.dis,h.bxF,h.bxd,fun j s x hj hx hst=>?_,fun j s x lo hj e hst=>?_,?_,h.own,h.par,h.new,h.gnN,fun x hx hl=>?_⟩
 ·have h1:=(h.row j s hj).2
  exact h1.mono hS hs.size hK (fun x hx=>hs.blk x (h1.lt x hx) fun e=>(hf.1 j s hj).1 (by injection e with e;exact e▸hx)) fun x lo us e' _ hB=>hB.block (hs.blk x hB.lt fun e=>(hf.1 j s hj).2 lo (by injection e with e;rw [e',e]))
 ·rcases hst with h1|rfl
  ·exact h.stF j s x hj hx h1.1
  ·exact (hf.1 j s hj).1 hx
 ·rcases hst with h1|rfl
  ·exact h.stB j s x lo hj e h1.1
  ·exact (hf.1 j s hj).2 lo e
 ·have hfr:=h.frm
  refine⟨hs.os.trans hfr.os,hs.tape.trans hfr.tape,hs.output.trans hfr.output,Nat.le_trans hfr.size hs.size,fun x hx hM=>(hfr.blk x hx hM).trans (.inl (hs.blk x (Nat.lt_of_lt_of_le hx hfr.size) fun e=>?_))⟩
  injection e with e
  subst e
  rcases hf.2.2 with h1|h1
  ·exact hM h1
  ·omega
 ·rcases hx with h1|rfl
  ·exact h.stS x h1.1 hl
  ·rcases hf.2.2 with h1|h1
   ·exact .inr h1
   ·omega
end
section
variable {P:Program}{ops:Array Oper}{Q:Exit→Act→World→Prop}{C:Ctx}{i:Nat}{r:List Nat}{o:Oper}
variable {tm:Nat→AV}{hp:Nat→Option Row}{gn L:Nat}{us:List Nat}{x:AV}
theorem zh21 {w:World}{b:Nat}{cur:Array Value}{e:TypeId}(h:w.heap[b]? = some (.cells cur e (0,0))):(w.freeze ⟨b,cur.size,none⟩ 1).heap[b]? = some (.cells cur e (cur.size,cur.size+1))∧Stp (some b) w (w.freeze ⟨b,cur.size,none⟩ 1):=by
 unfold World.freeze
 rw [if_neg (by decide)]
 refine⟨?_,rfl,rfl,rfl,?_,fun j hj hne=>?_⟩
 ·show (w.heap.modify b _)[b]? = _
  rw [Array.getElem?_modify,if_pos rfl,h];rfl
 ·show w.heap.size≤(w.heap.modify b _).size
  rw [Array.size_modify];exact Nat.le_refl _
 ·show (w.heap.modify b _)[j]? = _
  rw [Array.getElem?_modify,if_neg (fun e=>hne (by rw [e]))]
theorem run_convB {P:Program}{T e:TypeId}{w:World}{b n c:Nat}{cur:Array Value}(ht:P.underlying T=some (.slice e))(he:P.underlying e=some (.int .u8))(h:w.heap[b]? = some (.cells cur e (0,0))) :
 (convert T T (.slice (some ⟨b,0,none⟩) n c)).run P w=.ok (.slice (some ⟨b,0,none⟩) n c) (w.freeze ⟨b,cur.size,none⟩ 1):=by
 have hsh:w.shape? b=some (e,cur.size):=by unfold World.shape?;rw [h]
 simp [convert,run_underlying ht,run_underlying he,markStringish,hsh]
def scC:AC→Bool
 | .v _=>true
 | _=>false
theorem crl_sc {w w':World}{St St':Nat→Prop}{φ φ':Nat→Lc}{K K':Nat→Prop}:∀{l:List AC} {us:List Value} {fp:List Nat},l.all scC=true→CRL w St φ K l us fp→fp=[]∧CRL w' St' φ' K' l us []
 | [],us,fp,_,h=>by
  simp only [CRL] at h
  obtain⟨rfl,rfl⟩:=h
  exact⟨rfl,CRL.nil⟩
 | c :: t,us,fp,hl,h=>by
  simp only [List.all_cons,Bool.and_eq_true] at hl
  simp only [CRL] at h
  obtain⟨u,us',f1,f2,rfl,rfl,h1,h2⟩:=h
  obtain⟨rfl,h4⟩:=crl_sc (w':=w') (St':=St') (φ':=φ') (K':=K') hl.2 h2
  cases c with
  | v y =>
   simp only [CR] at h1
   obtain⟨rfl,g2,rfl⟩:=h1
   exact⟨rfl,CRL.cons (f:=[]) (f':=[]) (by simp only [CR];exact⟨trivial,g2,trivial⟩) h4⟩
  | _=>cases hl.1
theorem n_cvm {ty:TypeId}{gd:Option (Nat×Bool)}{ps:String}{af:Array Edge}{t j n:Nat}{T e:TypeId}{xo:Operand}{cs:List AC}
 (h:Walk P ops Q C false [] r ⟨upd tm t (.c (.ro n 1 cs)),upd hp j none,gn,us,L⟩)
 (hT:P.underlying T=some (.slice e)) (hE:P.underlying e=some (.int .u8)) (ht:Nat.blt t L=true:=by exact rfl) (hg:gw ops tm (⟨some t,.convert T T xo,ty,ps,af,gd⟩:Oper)=some true:=by exact rfl)
 (hx:AS.ev ⟨tm,hp,gn,us,L⟩ xo=.c (.sl j n):=by exact rfl) (hr:hp j=some ⟨e,1,n,false,cs⟩:=by exact rfl) (hn:Nat.blt 0 n=true:=by exact rfl) (hs:cs.all scC=true:=by exact rfl) :
 WalkO P ops Q C false [] i (⟨some t,.convert T T xo,ty,ps,af,gd⟩:Oper) r ⟨tm,hp,gn,us,L⟩:=⟨fun hop=>by
 refine⟨_,⟨[j],[(j,none)],[],.c (.ro n 1 cs)⟩,hop,?_,fun n hn=>absurd hn List.not_mem_nil,ze5 (by exact zj2),?_⟩
 ·intro τ a w ha hsim K hK
  obtain⟨φ,F,St,hsim⟩:=hsim
  have e1:τ.ev xo=.c (.sl j n):=by rw [ha.ev xo (by show xo∈#[xo];simp)];exact hx
  have e2:τ.hp j=some ⟨e,1,n,false,cs⟩:=by rw [ha.hp j List.mem_cons_self];exact hr
  have v1:=hsim.ev xo
  rw [e1] at v1
  simp only [VR,CR] at v1
  obtain⟨-,k1,k2,A,c,k3⟩:=v1
  obtain⟨-,hrow⟩:=hsim.row j _ e2
  rw [k2] at hrow
  obtain⟨-,vs,fs,g1,g2,g3⟩:=hrow
  have hn':0<n:=zd5 hn
  obtain⟨hl,⟨-,h0⟩|⟨b,cap,cur,hu,-,hh,hnc,hcm,hsz,htk⟩⟩:=g2
  ·dsimp only at h0;omega
  obtain⟨hfs,-⟩:=crl_sc (w':=w) (St':=St) (φ':=φ) (K':=τ.Kn) hs g1
  subst hfs
  rw [List.append_nil] at g3
  rw [hu] at g3
  have hob:obl (Value.slice (some ⟨b,0,none⟩) n cap)=[b]:=rfl
  dsimp only at hnc hsz htk hl hh
  have hbF:b∈F j:=by rw [g3];exact List.mem_cons_self
  have hfree:=hsim.free e2 hbF
  obtain⟨w1,w2⟩:=zh21 hh
  have hsim2:=(hsim.drop j).give hfree w2
  have hev:a.eval xo=.slice (some ⟨b,0,none⟩) n cap:=hu
  unfold wpOp
  rw [hop]
  have hw:=gw_to hsim (b:=true) (by rw [ha.gw];exact hg)
  simp only [hw,if_true]
  refine .inl ?_
  unfold Oper.wp
  have hrun:(execOp a.eval (⟨some t,.convert T T xo,ty,ps,af,gd⟩:Oper)).run P w=.ok (.value (.slice (some ⟨b,0,none⟩) n cap)) (w.freeze ⟨b,cur.size,none⟩ 1):=by
   unfold execOp
   have hrc:=run_convB (P:=P) (n:=n) (c:=cap) hT hE hh
   simp only [hev]
   simp [Sem.run_bind,hrc]
  rw [hrun]
  have hvr:VR (w.freeze ⟨b,cur.size,none⟩ 1) (fun x=>(St x∧x<w.heap.size)∨x=b) φ ({ τ with hp:=upd τ.hp j none }:AS).Kn (.c (.ro n 1 cs)) (.slice (some ⟨b,0,none⟩) n cap):=by
   simp only [VR,CR]
   refine⟨trivial,some ⟨b,0,none⟩,cap,rfl,⟨hnc,hcm,fun h=>by cases h⟩,?_,fun _=>⟨b,0,vs,rfl,.inr rfl,(Array.getElem?_eq_some_iff.1 w1).1,fun q y hq=>?_,?_⟩⟩
   ·rw [←g1.len];omega
   ·have hq2:cur[q]? = some y:=by
     rw [←htk] at hq
     rw [List.getElem?_take] at hq
     split at hq
     ·rwa [Array.getElem?_toList] at hq
     ·cases hq
    rw [Nat.zero_add]
    unfold World.cell?
    rw [w1]
    exact hq2
   ·exact (crl_sc hs g1).2
  have h7:=hsim2.put (some t) hvr
  exact hK _ _ ⟨φ,F,_,h7⟩
 ·refine zs3 ?_
  show Walk P ops Q C false [] r (AS.put _ (some t) _)
  rw [zp5 (by exact zd5 ht)];exact h⟩
end
def letB (c:Nat):Bool:=decide (97≤c)&&decide (c≤122)
def ldB (c:Nat):Bool:=letB c||digB c
def plB (b c:Nat):Bool:=decide (32≤c)&&(decide (c≤126)&&decide (c≠b))
def allB (p:Nat→Bool)(s:ByteArray):Bool:=decide (∀j,j<s.size→p (bAt s j)=true)
def runF (p:Nat→Bool)(s:ByteArray):Nat→Nat→Nat
 | 0,a=>a
 | f+1,a=>if a<s.size∧p (bAt s a)=true then runF p s f (a+1) else a
def nameW (s:ByteArray):Bool:=decide (1≤s.size)&&(decide (s.size≤8)&&(letB (bAt s 0)&&allB ldB s))
def textB (b:Nat)(s:ByteArray):Bool:=decide (s.size≤200)&&allB (plB b) s
theorem zv9 {p:Nat→Bool}{s:ByteArray}(h:∀j,j<s.size→p (bAt s j)=true):allB p s=true:=decide_eq_true h
theorem zm8 {p:Nat→Bool}{s:ByteArray}{j:Nat}(h:j<s.size)(h2:p (bAt s j)=false):allB p s=false:=decide_eq_false fun hh=>by rw [hh j h] at h2;cases h2
theorem zs13 {p:Nat→Bool}{s:ByteArray}{f a:Nat}(h:a<s.size)(h2:p (bAt s a)=true):runF p s (f+1) a=runF p s f (a+1):=if_pos ⟨h,h2⟩
theorem zl17 {p:Nat→Bool}{s:ByteArray}{f a:Nat}(h:¬(a<s.size∧p (bAt s a)=true)):runF p s f a=a:=by
 cases f with
 | zero=>rfl
 | succ f=>exact if_neg h
theorem zj15 {p:Nat→Bool}{s:ByteArray}:∀(f a:Nat),a≤s.size→s.size≤a+f→a≤runF p s f a∧runF p s f a≤s.size∧(∀j,a≤j→j<runF p s f a→p (bAt s j)=true)∧(runF p s f a<s.size→p (bAt s (runF p s f a))=false)
 | 0,a,h1,h2=>⟨Nat.le_refl _,h1,fun j h3 h4=>absurd h4 (by show ¬j<a;omega),fun h=>absurd h (by show ¬a<s.size;omega)⟩
 | f+1,a,h1,h2=>by
  by_cases h:a<s.size∧p (bAt s a)=true
  ·have h0:=h.1
   rw [zs13 h.1 h.2]
   obtain⟨g1,g2,g3,g4⟩:=zj15 (p:=p) (s:=s) f (a+1) (by omega) (by omega)
   refine⟨by omega,g2,fun j h3 h4=>?_,g4⟩
   by_cases e:j=a
   ·subst e;exact h.2
   ·exact g3 j (by omega) h4
  ·rw [zl17 h]
   refine⟨Nat.le_refl _,h1,fun j h3 h4=>by omega,fun h5=>?_⟩
   cases hb:p (bAt s a) with
   | false=>rfl
   | true=>exact absurd ⟨h5,hb⟩ h
theorem run_all {p:Nat→Bool}{s:ByteArray}:decide ((runF p s s.size 0:Int)=(s.size:Int))=allB p s:=by
 obtain⟨g1,g2,g3,g4⟩:=zj15 (p:=p) (s:=s) s.size 0 (Nat.zero_le _) (by omega)
 by_cases h:runF p s s.size 0=s.size
 ·rw [zv9 fun j hj=>g3 j (Nat.zero_le _) (by omega)]
  simp [h]
 ·rw [zm8 (show runF p s s.size 0<s.size by omega) (g4 (by omega))]
  simp;omega
theorem zn12 (c:Nat):Ctr Tryz.prog 105 [.c (.v (.int .u8 (c:Int)))] [] (.c (.v (.bool (letB c)))) []:=by
 refine ze1 Tryz.func105 rfl rfl ?_
 repeat' (first|refine zd ?_|refine za fun C=>?_|refine zb ?_|(refine x_gm ?_ ?_<;>intro hG<;>(try cases hG))|refine zm2 ?_|refine x_sk ?_)
 all_goals
  (first|refine zh ?_|skip);refine ret0 rfl zg1 ⟨?_,rfl⟩;refine congrArg (fun s=>AV.c (AC.v (Value.bool s))) ?_
  unfold letB
  (rw [Bool.eq_iff_iff];(try simp only [Bool.and_eq_true,Bool.or_eq_true,Bool.not_eq_true',decide_eq_true_iff,decide_eq_false_iff_not,beq_iff_eq,Bool.and_eq_false_iff,Bool.or_eq_false_iff,bne_iff_ne,ne_eq,Bool.true_eq_false,Bool.false_eq_true,true_iff,false_iff,iff_true,iff_false] at *);first|omega|(simp at *;omega))
theorem l7Small_c {c:Nat}(hc:c<256):Ctr Tryz.prog 80 [.c (.v (.int .u8 (c:Int)))] [] (.c (.v (.bool (letB c)))) []:=by
 refine ze1 Tryz.func80 rfl rfl ?_
 repeat' (first|refine zd ?_|refine za fun C=>?_|refine zb ?_|refine zi17 ?_|refine zm2 ?_|refine zn7 (zo7 _ _ _) ?_)
 all_goals
  (first|refine zh ?_|skip);refine ret0 rfl zg1 ⟨?_,rfl⟩;refine congrArg (fun s=>AV.c (AC.v (Value.bool s))) ?_
  unfold letB inR
  (rw [Bool.eq_iff_iff];(try simp only [Bool.and_eq_true,Bool.or_eq_true,Bool.not_eq_true',decide_eq_true_iff,decide_eq_false_iff_not,beq_iff_eq,Bool.and_eq_false_iff,Bool.or_eq_false_iff,bne_iff_ne,ne_eq,Bool.true_eq_false,Bool.false_eq_true,true_iff,false_iff,iff_true,iff_false] at *);first|omega|(simp at *;omega))
theorem zk15 {s:ByteArray}(hs:s.size≤1048576):Ctr Tryz.prog 106 [.c (.v (.string s))] [] (.c (.v (.int .i64 (runF ldB s s.size 0:Nat)))) []:=by
 refine ze1 Tryz.func106 rfl rfl ?_
 repeat' (first|(apply f_wo;(apply f_as;refine zq (v:=.c _) ?_))|(apply f_w;first|refine zj ?_|refine zb ?_)|refine za fun C=>?_|refine zd ?_|refine ze ?_)
 refine zv1 (fun k:Nat=>⟨tmsF [(0,.c (.v (.string s))),(3,.c (.v (.int .i64 (k:Int))))],hpsF [],0,[],23⟩)
  (fun N k=>k+N=s.size∧runF ldB s s.size 0=runF ldB s N k) s.size 0 ⟨by omega,rfl⟩ ?_ ?_
 ·(refine zl1 _ _ rfl rfl ?_ ?_<;>(repeat' (first|exact TmOk.nil|exact RwOk.nil|refine TmOk.cons ?_ ?_|refine RwOk.cons ?_ ?_|rfl|(refine rnV_id' rfl ?_;exact byc)|(refine zp1 ?_;first|rfl|omega|(rw [zw (by omega) (by omega)];omega))|(refine zb1 rfl ?_;exact byc)|exact zc2 rfl rfl|(refine zq1 (by rfl) (by rfl) ?_ ?_<;>exact byc)|(refine rw_rn' rfl rfl ?_;simp;done))))
 rintro N k ⟨hN,hr⟩
 try dsimp only
 have c1:=zn12 (bAt s k)
 have c2:=zh15 (bAt s k)
 by_cases hk:k<s.size
 ·obtain⟨M,rfl⟩:∃M,N=M+1:=⟨N-1,by omega⟩
  cases h1:letB (bAt s k) with
  | true =>
   rw [h1] at c1
   have hq:runF ldB s s.size 0=runF ldB s M (k+1):=by rw [hr,zs13 hk (by simp [ldB,h1])]
   repeat' (first|(apply f_wo;first|(apply f_gs;refine n_sk ?_)|(apply f_mv;first|(refine zx1 ?_ ?_<;>intro hG<;>(try cases hG))|refine zv (v:=.c _) ?_)|(apply f_as;refine zq (v:=.c _) ?_)|(apply f_ca;refine zk1 c1 ?_)|(apply f_bi;refine za4 ?_)|(apply zg3;refine zs1 ?_)|(apply zd2;refine zj1 ?_)|(apply f_pk;refine zw1 (v:=.c _) ?_)|refine zw6 ?_)|(apply f_w;first|refine zj ?_|refine zb ?_)|refine za fun C=>?_|refine zd ?_|refine ze ?_|refine zg ?_|refine zu ?_|(refine zi (by rfl) ?_ ?_<;>intro hC<;>(try cases hC)))
   all_goals first
    | (exfalso;simp only [decide_eq_true_iff,decide_eq_false_iff_not] at *;omega)
    | (refine⟨M,k+1,by omega,⟨by omega,hq⟩,?_⟩;(refine zl1 _ _ rfl rfl ?_ ?_<;>(repeat' (first|exact TmOk.nil|exact RwOk.nil|refine TmOk.cons ?_ ?_|refine RwOk.cons ?_ ?_|rfl|(refine rnV_id' rfl ?_;exact byc)|(refine zp1 ?_;first|rfl|omega|(rw [zw (by omega) (by omega)];omega))|(refine zb1 rfl ?_;exact byc)|exact zc2 rfl rfl|(refine zq1 (by rfl) (by rfl) ?_ ?_<;>exact byc)|(refine rw_rn' rfl rfl ?_;simp;done)))))
  | false =>
   rw [h1] at c1
   cases h2:digB (bAt s k) with
   | true =>
    rw [h2] at c2
    have hq:runF ldB s s.size 0=runF ldB s M (k+1):=by rw [hr,zs13 hk (by simp [ldB,h2])]
    repeat' (first|(apply f_wo;first|(apply f_gs;refine n_sk ?_)|(apply f_mv;first|(refine zx1 ?_ ?_<;>intro hG<;>(try cases hG))|refine zv (v:=.c _) ?_)|(apply f_as;refine zq (v:=.c _) ?_)|(apply f_ca;first|refine zk1 c1 ?_|refine zk1 c2 ?_)|(apply f_bi;refine za4 ?_)|(apply zg3;refine zs1 ?_)|(apply zd2;refine zj1 ?_)|(apply f_pk;refine zw1 (v:=.c _) ?_)|refine zw6 ?_)|(apply f_w;first|refine zj ?_|refine zb ?_)|refine za fun C=>?_|refine zd ?_|refine ze ?_|refine zg ?_|refine zu ?_|(refine zi (by rfl) ?_ ?_<;>intro hC<;>(try cases hC)))
    all_goals first
     | (exfalso;simp only [decide_eq_true_iff,decide_eq_false_iff_not] at *;omega)
     | (refine⟨M,k+1,by omega,⟨by omega,hq⟩,?_⟩;(refine zl1 _ _ rfl rfl ?_ ?_<;>(repeat' (first|exact TmOk.nil|exact RwOk.nil|refine TmOk.cons ?_ ?_|refine RwOk.cons ?_ ?_|rfl|(refine rnV_id' rfl ?_;exact byc)|(refine zp1 ?_;first|rfl|omega|(rw [zw (by omega) (by omega)];omega))|(refine zb1 rfl ?_;exact byc)|exact zc2 rfl rfl|(refine zq1 (by rfl) (by rfl) ?_ ?_<;>exact byc)|(refine rw_rn' rfl rfl ?_;simp;done)))))
   | false =>
    rw [h2] at c2
    rw [hr,zl17 fun h=>by simp [ldB,h1,h2] at h]
    repeat' (first|(apply f_wo;first|(apply f_gs;refine n_sk ?_)|(apply f_mv;first|(refine zx1 ?_ ?_<;>intro hG<;>(try cases hG))|refine zv (v:=.c _) ?_)|(apply f_as;refine zq (v:=.c _) ?_)|(apply f_ca;first|refine zk1 c1 ?_|refine zk1 c2 ?_)|(apply f_bi;refine za4 ?_)|(apply zg3;refine zs1 ?_)|(apply f_pk;refine zw1 (v:=.c _) ?_)|refine zw6 ?_)|(apply f_w;first|refine zj ?_|refine zb ?_)|refine za fun C=>?_|refine zd ?_|refine zu ?_|(refine zi (by rfl) ?_ ?_<;>intro hC<;>(try cases hC)))
    all_goals first
     | (exfalso;simp only [decide_eq_true_iff,decide_eq_false_iff_not] at *;omega)
     | (refine zh ?_;refine ret0 rfl zg1 ⟨?_,rfl⟩;rfl)
 ·rw [hr,zl17 fun h=>hk h.1]
  repeat' (first|(apply f_wo;first|(apply f_gs;refine n_sk ?_)|(apply f_mv;first|(refine zx1 ?_ ?_<;>intro hG<;>(try cases hG))|refine zv (v:=.c _) ?_)|(apply f_as;refine zq (v:=.c _) ?_)|(apply f_ca;first|refine zk1 c1 ?_|refine zk1 c2 ?_)|(apply f_bi;refine za4 ?_)|(apply zg3;refine zs1 ?_)|(apply zd2;refine zj1 ?_)|(apply f_pk;refine zw1 (v:=.c _) ?_)|refine zw6 ?_)|(apply f_w;first|refine zj ?_|refine zb ?_)|refine za fun C=>?_|refine zd ?_|refine ze ?_|refine zg ?_|refine zu ?_|(refine zi (by rfl) ?_ ?_<;>intro hC<;>(try cases hC)))
  all_goals first
   | (exfalso;simp only [decide_eq_true_iff,decide_eq_false_iff_not] at *;omega)
   | (refine zh ?_;refine ret0 rfl zg1 ⟨?_,rfl⟩;rfl)
theorem isName_c {s:ByteArray}(hs:s.size≤1048576):Ctr Tryz.prog 91 [.c (.v (.string s))] [] (.c (.v (.bool (nameW s)))) []:=by
 have cw:=zy5 (s.size:Int) 1 8
 have c1:=zn12 (bAt s 0)
 have c2:=zk15 hs
 by_cases hb:1≤s.size∧s.size≤8
 ·rw [show inR (s.size:Int) 1 8=true by simp [inR];omega] at cw
  cases h1:letB (bAt s 0) with
  | true =>
   rw [h1] at c1
   rw [show nameW s=decide ((runF ldB s s.size 0:Int)=(s.size:Int)) by rw [run_all];simp [nameW,hb,h1]]
   refine ze1 Tryz.func91 rfl rfl ?_
   repeat' (first|(apply f_wo;first|(apply f_mv;first|(refine zx1 ?_ ?_<;>intro hG<;>(try cases hG))|refine zv (v:=.c _) ?_)|(apply f_as;refine zq (v:=.c _) ?_)|(apply f_ca;first|refine zk1 cw ?_|refine zk1 c1 ?_|refine zk1 c2 ?_)|(apply f_bi;refine za4 ?_)|(apply zr1;refine zm ?_)|(apply f_pk;refine zw1 (v:=.c _) ?_)|refine zw6 ?_)|(apply f_w;first|refine zj ?_|refine zb ?_)|refine za fun C=>?_|refine zd ?_)
   refine zh ?_;refine ret0 rfl zg1 ⟨?_,rfl⟩;rfl
  | false =>
   rw [h1] at c1
   rw [show nameW s=false by simp [nameW,h1]]
   refine ze1 Tryz.func91 rfl rfl ?_
   repeat' (first|(apply f_wo;first|(apply f_gs;refine n_sk ?_)|(apply f_mv;first|(refine zx1 ?_ ?_<;>intro hG<;>(try cases hG))|refine zv (v:=.c _) ?_)|(apply f_as;refine zq (v:=.c _) ?_)|(apply f_ca;first|refine zk1 cw ?_|refine zk1 c1 ?_)|(apply f_bi;refine za4 ?_)|(apply f_pk;refine zw1 (v:=.c _) ?_)|refine zw6 ?_)|(apply f_w;first|refine zj ?_|refine zb ?_)|refine za fun C=>?_|refine zd ?_)
   refine zh ?_;refine ret0 rfl zg1 ⟨?_,rfl⟩;rfl
 ·rw [show inR (s.size:Int) 1 8=false by simp [inR];omega] at cw
  rw [show nameW s=false by simp [nameW];omega]
  refine ze1 Tryz.func91 rfl rfl ?_
  repeat' (first|(apply f_wo;first|(apply f_gs;refine n_sk ?_)|(apply f_mv;first|(refine zx1 ?_ ?_<;>intro hG<;>(try cases hG))|refine zv (v:=.c _) ?_)|(apply f_as;refine zq (v:=.c _) ?_)|(apply f_ca;refine zk1 cw ?_)|(apply f_bi;refine za4 ?_)|(apply f_pk;refine zw1 (v:=.c _) ?_))|(apply f_w;first|refine zj ?_|refine zb ?_)|refine za fun C=>?_|refine zd ?_)
  refine zh ?_;refine ret0 rfl zg1 ⟨?_,rfl⟩;rfl
theorem l7Word_c {s:ByteArray}(hs:s.size≤1048576):Ctr Tryz.prog 52 [.c (.v (.string s))] [] (.c (.v (.bool (nameW s)))) []:=by
 refine ze1 Tryz.func52 rfl rfl ?_
 repeat' (first|(apply f_wo;(apply f_as;refine zq (v:=.c _) ?_))|(apply f_w;first|refine zj ?_|refine zb ?_)|refine za fun C=>?_|refine zd ?_|refine ze ?_)
 refine zv1 (fun k:Nat=>⟨tmsF [(0,.c (.v (.string s))),(3,.c (.v (.int .i64 (k:Int))))],hpsF [],0,[],29⟩)
  (fun N k=>k+N=s.size∧(∀j,j<k→ldB (bAt s j)=true)∧(0<k→letB (bAt s 0)=true)) s.size 0 ⟨by omega,fun j hj=>absurd hj (Nat.not_lt_zero j),fun h=>absurd h (Nat.lt_irrefl 0)⟩ ?_ ?_
 ·(refine zl1 _ _ rfl rfl ?_ ?_<;>(repeat' (first|exact TmOk.nil|exact RwOk.nil|refine TmOk.cons ?_ ?_|refine RwOk.cons ?_ ?_|rfl|(refine rnV_id' rfl ?_;exact byc)|(refine zp1 ?_;first|rfl|omega|(rw [zw (by omega) (by omega)];omega))|(refine zb1 rfl ?_;exact byc)|exact zc2 rfl rfl|(refine zq1 (by rfl) (by rfl) ?_ ?_<;>exact byc)|(refine rw_rn' rfl rfl ?_;simp;done))))
 rintro N k ⟨hN,hr,hr0⟩
 try dsimp only
 have c1:=l7Small_c (zq5 s k)
 have c2:=zi15 (zq5 s k)
 have c3:=zo7 (s.size:Int) 1 8
 repeat' (first|(apply f_wo;first|(apply f_mv;refine zv (v:=.c _) ?_)|(apply f_bi;refine za4 ?_)|(apply zg3;refine zs1 ?_))|(apply f_w;first|refine zj ?_|refine zb ?_)|refine za fun C=>?_|refine zd ?_)
 refine zi (by rfl) (fun hk=>?_) fun hk=>?_
 ·have hk':k<s.size:=by simpa using hk
  cases h1:letB (bAt s k) with
  | true =>
   rw [h1] at c1
   repeat' (first|(apply f_wo;first|(apply f_gs;refine n_sk ?_)|(apply f_mv;first|(refine zx1 ?_ ?_<;>intro hG<;>(try cases hG))|refine zv (v:=.c _) ?_)|(apply f_as;refine zq (v:=.c _) ?_)|(apply f_ca;refine zk1 c1 ?_)|(apply zd2;refine zj1 ?_)|(apply f_no;refine zu2 ?_)|(apply f_pk;refine zw1 (v:=.c _) ?_)|refine zw6 ?_)|(apply f_w;first|refine zj ?_|refine zb ?_)|refine za fun C=>?_|refine zd ?_|refine ze ?_|refine zg ?_|refine zf1 rfl ?_)
   refine⟨N-1,k+1,by omega,⟨by omega,fun j hj=>?_,fun _=>?_⟩,?_⟩
   ·by_cases e:j=k
    ·subst e;simp [ldB,h1]
    ·exact hr j (by omega)
   ·by_cases e:k=0
    ·subst e;exact h1
    ·exact hr0 (by omega)
   ·(refine zl1 _ _ rfl rfl ?_ ?_<;>(repeat' (first|exact TmOk.nil|exact RwOk.nil|refine TmOk.cons ?_ ?_|refine RwOk.cons ?_ ?_|rfl|(refine rnV_id' rfl ?_;exact byc)|(refine zp1 ?_;first|rfl|omega|(rw [zw (by omega) (by omega)];omega))|(refine zb1 rfl ?_;exact byc)|exact zc2 rfl rfl|(refine zq1 (by rfl) (by rfl) ?_ ?_<;>exact byc)|(refine rw_rn' rfl rfl ?_;simp;done))))
  | false =>
   rw [h1] at c1
   by_cases h0:k=0
   ·subst h0
    rw [show nameW s=false by simp [nameW,h1]]
    repeat' (first|(apply f_wo;first|(apply f_gs;refine n_sk ?_)|(apply f_mv;first|(refine zx1 ?_ ?_<;>intro hG<;>(try cases hG))|refine zv (v:=.c _) ?_)|(apply f_as;refine zq (v:=.c _) ?_)|(apply f_ca;refine zk1 c1 ?_)|(apply zr1;refine zm ?_)|(apply f_no;refine zu2 ?_)|(apply f_pk;refine zw1 (v:=.c _) ?_)|refine zw6 ?_)|(apply f_w;first|refine zj ?_|refine zb ?_)|refine za fun C=>?_|refine zd ?_|refine ze ?_|refine zg ?_|refine za1 rfl ?_)
    refine zh ?_;refine ret0 rfl zg1 ⟨?_,rfl⟩;rfl
   ·cases h2:digB (bAt s k) with
    | true =>
     rw [h2] at c2
     repeat' (first|(apply f_wo;first|(apply f_gs;refine n_sk ?_)|(apply f_mv;first|(refine zx1 ?_ ?_<;>intro hG<;>(try cases hG))|refine zv (v:=.c _) ?_)|(apply f_as;refine zq (v:=.c _) ?_)|(apply f_ca;first|refine zk1 c1 ?_|refine zk1 c2 ?_)|(apply zr1;refine zm ?_)|(apply zd2;refine zj1 ?_)|(apply f_no;refine zu2 ?_)|(apply f_pk;refine zw1 (v:=.c _) ?_)|refine zw6 ?_)|(apply f_w;first|refine zj ?_|refine zb ?_)|refine za fun C=>?_|refine zd ?_|refine ze ?_|refine zg ?_|(refine zi (by rfl) ?_ ?_<;>intro hC<;>(try cases hC)))
     all_goals first
      | (refine absurd hG ?_;simp;omega)
      | (refine⟨N-1,k+1,by omega,⟨by omega,fun j hj=>?_,fun _=>hr0 (by omega)⟩,?_⟩
         ·by_cases e:j=k
          ·subst e;simp [ldB,h2]
          ·exact hr j (by omega)
         ·(refine zl1 _ _ rfl rfl ?_ ?_<;>(repeat' (first|exact TmOk.nil|exact RwOk.nil|refine TmOk.cons ?_ ?_|refine RwOk.cons ?_ ?_|rfl|(refine rnV_id' rfl ?_;exact byc)|(refine zp1 ?_;first|rfl|omega|(rw [zw (by omega) (by omega)];omega))|(refine zb1 rfl ?_;exact byc)|exact zc2 rfl rfl|(refine zq1 (by rfl) (by rfl) ?_ ?_<;>exact byc)|(refine rw_rn' rfl rfl ?_;simp;done)))))
    | false =>
     rw [h2] at c2
     rw [show nameW s=false by simp [nameW,zm8 hk' (show ldB (bAt s k)=false by simp [ldB,h1,h2])]]
     repeat' (first|(apply f_wo;first|(apply f_gs;refine n_sk ?_)|(apply f_mv;first|(refine zx1 ?_ ?_<;>intro hG<;>(try cases hG))|refine zv (v:=.c _) ?_)|(apply f_as;refine zq (v:=.c _) ?_)|(apply f_ca;first|refine zk1 c1 ?_|refine zk1 c2 ?_)|(apply zr1;refine zm ?_)|(apply f_no;refine zu2 ?_)|(apply f_pk;refine zw1 (v:=.c _) ?_)|refine zw6 ?_)|(apply f_w;first|refine zj ?_|refine zb ?_)|refine za fun C=>?_|refine zd ?_|refine ze ?_|refine zg ?_|(refine zi (by rfl) ?_ ?_<;>intro hC<;>(try cases hC)))
     all_goals first
      | (refine absurd hG ?_;simp;omega)
      | (refine zh ?_;refine ret0 rfl zg1 ⟨?_,rfl⟩;rfl)
 ·have hk':¬k<s.size:=by simpa using hk
  have ha:allB ldB s=true:=zv9 fun j hj=>hr j (by omega)
  have hk2:k=s.size:=by omega
  rw [show nameW s=inR (s.size:Int) 1 8 by
   by_cases hz:0<s.size
   ·have e0:=hr0 (by omega)
    simp only [nameW,ha,e0,inR,Bool.and_true]
    congr 1<;>(apply decide_eq_decide.2;omega)
   ·have e1:decide (1≤s.size)=false:=decide_eq_false (by omega)
    have e2:decide ((1:Int)≤(s.size:Int))=false:=decide_eq_false (by omega)
    simp only [nameW,inR,e1,e2,Bool.false_and]]
  repeat' (first|(apply f_wo;first|(apply f_mv;refine zv (v:=.c _) ?_)|(apply f_as;refine zq (v:=.c _) ?_)|(apply f_ca;refine zk1 c3 ?_)|(apply f_bi;refine za4 ?_))|(apply f_w;first|refine zj ?_|refine zb ?_)|refine za fun C=>?_|refine zd ?_|refine zu ?_)
  refine zh ?_;refine ret0 rfl zg1 ⟨?_,rfl⟩;rfl
theorem plainOk_c {s:ByteArray}(hs:s.size≤1048576){b:Nat}(hb:b<256):Ctr Tryz.prog 123 [.c (.v (.string s)),.c (.v (.int .u8 (b:Int)))] [] (.c (.v (.bool (allB (plB b) s)))) []:=by
 refine ze1 Tryz.func123 rfl rfl ?_
 repeat' (first|(apply f_wo;(apply f_as;refine zq (v:=.c _) ?_))|(apply f_w;first|refine zj ?_|refine zb ?_)|refine za fun C=>?_|refine zd ?_|refine ze ?_)
 refine zv1 (fun k:Nat=>⟨tmsF [(0,.c (.v (.string s))),(1,.c (.v (.int .u8 (b:Int)))),(5,.c (.v (.int .i64 (k:Int))))],hpsF [],0,[],25⟩)
  (fun N k=>k+N=s.size∧∀j,j<k→plB b (bAt s j)=true) s.size 0 ⟨by omega,fun j hj=>absurd hj (Nat.not_lt_zero j)⟩ ?_ ?_
 ·(refine zl1 _ _ rfl rfl ?_ ?_<;>(repeat' (first|exact TmOk.nil|exact RwOk.nil|refine TmOk.cons ?_ ?_|refine RwOk.cons ?_ ?_|rfl|(refine rnV_id' rfl ?_;exact byc)|(refine zp1 ?_;first|rfl|omega|(rw [zw (by omega) (by omega)];omega))|(refine zb1 rfl ?_;exact byc)|exact zc2 rfl rfl|(refine zq1 (by rfl) (by rfl) ?_ ?_<;>exact byc)|(refine rw_rn' rfl rfl ?_;simp;done))))
 rintro N k ⟨hN,hr⟩
 try dsimp only
 have hlt:=zq5 s k
 have c1:=zy5 (bAt s k:Int) 32 126
 repeat' (first|(apply f_wo;first|(apply f_mv;refine zv (v:=.c _) ?_)|(apply f_bi;refine za4 ?_)|(apply zg3;refine zs1 ?_))|(apply f_w;first|refine zj ?_|refine zb ?_)|refine za fun C=>?_|refine zd ?_)
 refine zi (by rfl) (fun hk=>?_) fun hk=>?_
 ·have hk':k<s.size:=by simpa using hk
  by_cases h1:32≤bAt s k∧bAt s k≤126
  ·rw [show inR (bAt s k:Int) 32 126=true by simp [inR];omega] at c1
   repeat' (first|(apply f_wo;first|(apply f_mv;first|(refine zx1 ?_ ?_<;>intro hG<;>(try cases hG))|refine zv (v:=.c _) ?_)|(apply f_ca;refine zk1 c1 ?_)|(apply zr1;refine zv2 ?_)|(apply f_no;refine zu2 ?_)|(apply f_pk;refine zw1 (v:=.c _) ?_)|(apply f_cv;refine zr7 ?_)|refine zw6 ?_)|(apply f_w;first|refine zj ?_|refine zb ?_)|refine za fun C=>?_|refine zd ?_|refine ze ?_|refine zg ?_)
   refine zi (by rfl) (fun hC=>?_) fun hC=>?_
   ·have e:bAt s k=b:=by have:=eq_of_beq hC;omega
    rw [zm8 hk' (show plB b (bAt s k)=false by simp [plB,e])]
    repeat' (first|(apply f_wo;(apply f_as;refine zq (v:=.c _) ?_))|(apply f_w;first|refine zj ?_|refine zb ?_)|refine za fun C=>?_|refine zd ?_)
    refine zh ?_;refine ret0 rfl zg1 ⟨?_,rfl⟩;rfl
   ·have e:bAt s k≠b:=by have:=ne_of_beq_false hC;omega
    repeat' (first|(apply f_wo;first|(apply f_mv;refine zv (v:=.c _) ?_)|(apply f_as;refine zq (v:=.c _) ?_)|(apply zd2;refine zj1 ?_))|(apply f_w;first|refine zj ?_|refine zb ?_)|refine za fun C=>?_|refine zg ?_)
    refine⟨N-1,k+1,by omega,⟨by omega,fun j hj=>?_⟩,?_⟩
    ·by_cases e2:j=k
     ·subst e2;simp [plB,h1,e]
     ·exact hr j (by omega)
    ·(refine zl1 _ _ rfl rfl ?_ ?_<;>(repeat' (first|exact TmOk.nil|exact RwOk.nil|refine TmOk.cons ?_ ?_|refine RwOk.cons ?_ ?_|rfl|(refine rnV_id' rfl ?_;exact byc)|(refine zp1 ?_;first|rfl|omega|(rw [zw (by omega) (by omega)];omega))|(refine zb1 rfl ?_;exact byc)|exact zc2 rfl rfl|(refine zq1 (by rfl) (by rfl) ?_ ?_<;>exact byc)|(refine rw_rn' rfl rfl ?_;simp;done))))
  ·rw [show inR (bAt s k:Int) 32 126=false by simp [inR];omega] at c1
   rw [zm8 hk' (show plB b (bAt s k)=false by simp [plB];omega)]
   repeat' (first|(apply f_wo;first|(apply f_gs;refine n_sk ?_)|(apply f_mv;first|(refine zx1 ?_ ?_<;>intro hG<;>(try cases hG))|refine zv (v:=.c _) ?_)|(apply f_as;refine zq (v:=.c _) ?_)|(apply f_ca;refine zk1 c1 ?_)|(apply f_no;refine zu2 ?_)|(apply f_pk;refine zw1 (v:=.c _) ?_)|(apply f_cv;refine zr7 ?_)|refine zw6 ?_)|(apply f_w;first|refine zj ?_|refine zb ?_)|refine za fun C=>?_|refine zd ?_|refine ze ?_|refine zg ?_|refine za1 rfl ?_)
   refine zh ?_;refine ret0 rfl zg1 ⟨?_,rfl⟩;rfl
 ·have hk':¬k<s.size:=by simpa using hk
  rw [zv9 fun j hj=>hr j (by omega)]
  repeat' (first|(apply f_wo;(apply f_as;refine zq (v:=.c _) ?_))|(apply f_w;first|refine zj ?_|refine zb ?_)|refine za fun C=>?_|refine zd ?_|refine zu ?_)
  refine zh ?_;refine ret0 rfl zg1 ⟨?_,rfl⟩;rfl
theorem l7Print_c {s:ByteArray}(hs:s.size≤1048576){b:Nat}(hb:b<256):Ctr Tryz.prog 109 [.c (.v (.string s)),.c (.v (.int .u8 (b:Int)))] [] (.c (.v (.bool (textB b s)))) []:=by
 refine ze1 Tryz.func109 rfl rfl ?_
 repeat' (first|(apply f_wo;(apply f_as;refine zq (v:=.c _) ?_))|(apply f_w;first|refine zj ?_|refine zb ?_)|refine za fun C=>?_|refine zd ?_|refine ze ?_)
 refine zv1 (fun k:Nat=>⟨tmsF [(0,.c (.v (.string s))),(1,.c (.v (.int .u8 (b:Int)))),(5,.c (.v (.int .i64 (k:Int))))],hpsF [],0,[],28⟩)
  (fun N k=>k+N=s.size∧∀j,j<k→plB b (bAt s j)=true) s.size 0 ⟨by omega,fun j hj=>absurd hj (Nat.not_lt_zero j)⟩ ?_ ?_
 ·(refine zl1 _ _ rfl rfl ?_ ?_<;>(repeat' (first|exact TmOk.nil|exact RwOk.nil|refine TmOk.cons ?_ ?_|refine RwOk.cons ?_ ?_|rfl|(refine rnV_id' rfl ?_;exact byc)|(refine zp1 ?_;first|rfl|omega|(rw [zw (by omega) (by omega)];omega))|(refine zb1 rfl ?_;exact byc)|exact zc2 rfl rfl|(refine zq1 (by rfl) (by rfl) ?_ ?_<;>exact byc)|(refine rw_rn' rfl rfl ?_;simp;done))))
 rintro N k ⟨hN,hr⟩
 try dsimp only
 have hlt:=zq5 s k
 have c1:=zo7 (bAt s k:Int) 32 126
 repeat' (first|(apply f_wo;first|(apply f_mv;refine zv (v:=.c _) ?_)|(apply f_bi;refine za4 ?_)|(apply zg3;refine zs1 ?_))|(apply f_w;first|refine zj ?_|refine zb ?_)|refine za fun C=>?_|refine zd ?_)
 refine zi (by rfl) (fun hk=>?_) fun hk=>?_
 ·have hk':k<s.size:=by simpa using hk
  by_cases h1:32≤bAt s k∧bAt s k≤126
  ·rw [show inR (bAt s k:Int) 32 126=true by simp [inR];omega] at c1
   repeat' (first|(apply f_wo;first|(apply f_mv;first|(refine zx1 ?_ ?_<;>intro hG<;>(try cases hG))|refine zv (v:=.c _) ?_)|(apply f_ca;refine zk1 c1 ?_)|(apply zr1;refine zv2 ?_)|(apply f_no;refine zu2 ?_)|(apply f_pk;refine zw1 (v:=.c _) ?_)|(apply f_cv;refine zr7 ?_)|refine zw6 ?_)|(apply f_w;first|refine zj ?_|refine zb ?_)|refine za fun C=>?_|refine zd ?_|refine ze ?_|refine zg ?_)
   refine zi (by rfl) (fun hC=>?_) fun hC=>?_
   ·have e:bAt s k=b:=by have:=eq_of_beq hC;omega
    rw [show textB b s=false by simp [textB,zm8 hk' (show plB b (bAt s k)=false by simp [plB,e])]]
    repeat' (first|(apply f_wo;(apply f_as;refine zq (v:=.c _) ?_))|(apply f_w;first|refine zj ?_|refine zb ?_)|refine za fun C=>?_|refine zd ?_)
    refine zh ?_;refine ret0 rfl zg1 ⟨?_,rfl⟩;rfl
   ·have e:bAt s k≠b:=by have:=ne_of_beq_false hC;omega
    repeat' (first|(apply f_wo;first|(apply f_mv;refine zv (v:=.c _) ?_)|(apply f_as;refine zq (v:=.c _) ?_)|(apply zd2;refine zj1 ?_))|(apply f_w;first|refine zj ?_|refine zb ?_)|refine za fun C=>?_|refine zg ?_)
    refine⟨N-1,k+1,by omega,⟨by omega,fun j hj=>?_⟩,?_⟩
    ·by_cases e2:j=k
     ·subst e2;simp [plB,h1,e]
     ·exact hr j (by omega)
    ·(refine zl1 _ _ rfl rfl ?_ ?_<;>(repeat' (first|exact TmOk.nil|exact RwOk.nil|refine TmOk.cons ?_ ?_|refine RwOk.cons ?_ ?_|rfl|(refine rnV_id' rfl ?_;exact byc)|(refine zp1 ?_;first|rfl|omega|(rw [zw (by omega) (by omega)];omega))|(refine zb1 rfl ?_;exact byc)|exact zc2 rfl rfl|(refine zq1 (by rfl) (by rfl) ?_ ?_<;>exact byc)|(refine rw_rn' rfl rfl ?_;simp;done))))
  ·rw [show inR (bAt s k:Int) 32 126=false by simp [inR];omega] at c1
   rw [show textB b s=false by simp [textB,zm8 hk' (show plB b (bAt s k)=false by simp [plB];omega)]]
   repeat' (first|(apply f_wo;first|(apply f_gs;refine n_sk ?_)|(apply f_mv;first|(refine zx1 ?_ ?_<;>intro hG<;>(try cases hG))|refine zv (v:=.c _) ?_)|(apply f_as;refine zq (v:=.c _) ?_)|(apply f_ca;refine zk1 c1 ?_)|(apply f_no;refine zu2 ?_)|(apply f_pk;refine zw1 (v:=.c _) ?_)|(apply f_cv;refine zr7 ?_)|refine zw6 ?_)|(apply f_w;first|refine zj ?_|refine zb ?_)|refine za fun C=>?_|refine zd ?_|refine ze ?_|refine zg ?_|refine za1 rfl ?_)
   refine zh ?_;refine ret0 rfl zg1 ⟨?_,rfl⟩;rfl
 ·have hk':¬k<s.size:=by simpa using hk
  rw [show textB b s=decide (s.size≤200) by simp [textB,zv9 fun j (hj:j<s.size)=>hr j (by omega)]]
  repeat' (first|(apply f_wo;first|(apply f_mv;refine zv (v:=.c _) ?_)|(apply f_as;refine zq (v:=.c _) ?_)|(apply f_bi;refine za4 ?_)|(apply zo4;refine zl2 ?_))|(apply f_w;first|refine zj ?_|refine zb ?_)|refine za fun C=>?_|refine zd ?_|refine zu ?_)
  (first|refine zh ?_|skip);refine ret0 rfl zg1 ⟨?_,rfl⟩;refine congrArg (fun s=>AV.c (AC.v (Value.bool s))) ?_
  (rw [Bool.eq_iff_iff];(try simp only [Bool.and_eq_true,Bool.or_eq_true,Bool.not_eq_true',decide_eq_true_iff,decide_eq_false_iff_not,beq_iff_eq,Bool.and_eq_false_iff,Bool.or_eq_false_iff,bne_iff_ne,ne_eq,Bool.true_eq_false,Bool.false_eq_true,true_iff,false_iff,iff_true,iff_false] at *);first|omega|(simp at *;omega))
theorem textOk_c {s:ByteArray}(hs:s.size≤1048576):Ctr Tryz.prog 114 [.c (.v (.string s))] [] (.c (.v (.bool (textB 39 s)))) []:=by
 have c1:=plainOk_c hs (b:=39) (by omega)
 refine ze1 Tryz.func114 rfl rfl ?_
 repeat' (first|(apply f_wo;first|(apply f_gs;refine n_sk ?_)|(apply f_mv;first|(refine zx1 ?_ ?_<;>intro hG<;>(try cases hG))|refine zv (v:=.c _) ?_)|(apply f_as;refine zq (v:=.c _) ?_)|(apply f_ca;refine zk1 c1 ?_)|(apply f_bi;refine za4 ?_)|(apply zo4;refine zl2 ?_)|(apply f_pk;refine zw1 (v:=.c _) ?_))|(apply f_w;first|refine zj ?_|refine zb ?_)|refine za fun C=>?_|refine zd ?_)
 all_goals
  (first|refine zh ?_|skip);refine ret0 rfl zg1 ⟨?_,rfl⟩;refine congrArg (fun s=>AV.c (AC.v (Value.bool s))) ?_
  unfold textB
  (rw [Bool.eq_iff_iff];(try simp only [Bool.and_eq_true,Bool.or_eq_true,Bool.not_eq_true',decide_eq_true_iff,decide_eq_false_iff_not,beq_iff_eq,Bool.and_eq_false_iff,Bool.or_eq_false_iff,bne_iff_ne,ne_eq,Bool.true_eq_false,Bool.false_eq_true,true_iff,false_iff,iff_true,iff_false] at *);first|omega|(simp at *;omega))
end Go.Proofs.YtnjfnhoipnbpeaaGreatDoor
