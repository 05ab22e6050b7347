/- T -/
import Derived.Test.YtmnneflenebgmaaGreatCnOK
set_option maxHeartbeats 0
set_option maxRecDepth 100000
namespace Go.Proofs.YtmnneflenebgmaaGreat
open Go.RowKit Go.Proofs.Tryz
theorem d9 {p:Prop}(h:p:=by refine am ?_;refine bi rfl aN ⟨?_,rfl⟩;rfl):p:=h
theorem tdy0 {p:Prop}(h:p:=by repeat' (first|exact TmOk.nil|exact RwOk.nil|refine TmOk.cons ?_ ?_|refine RwOk.cons ?_ ?_|rfl|(refine rnV_id' rfl ?_;exact byc)|(refine bv ?_;first|rfl|omega|(rw [aW omq omq];omega))|(refine aK rfl ?_;exact byc)|exact cb rfl rfl|(refine rw_mid (by rfl) (by rfl) ?_ ?_<;>exact byc)|(refine rw_rn' rfl rfl ?_;simp;done))):p:=h
def wD (c:Nat):Bool:=decide (97≤c)&&decide (c≤122)
def ldB (c:Nat):Bool:=wD c||xp c
def plB (b c:Nat):Bool:=decide (32≤c)&&(decide (c≤126)&&decide (c≠b))
def allB (p:Nat→Bool)(s:ByteArray):Bool:=decide (∀j,j<s.size→p (bAt s j)=true)
def lN (p:Nat→Bool)(s:ByteArray):Nat→Nat→Nat
 | 0,a=>a
 | f+1,a=>if a<s.size∧p (bAt s a)=true then lN p s f (a+1) else a
def fR (s:ByteArray):Bool:=decide (1≤s.size)&&(decide (s.size≤8)&&(wD (bAt s 0)&&allB ldB s))
def gY (b:Nat)(s:ByteArray):Bool:=decide (s.size≤200)&&allB (plB b) s
theorem jM {p:Nat→Bool}{s:ByteArray}(h:∀j,j<s.size→p (bAt s j)=true):allB p s=true:=decide_eq_true h
theorem iT {p:Nat→Bool}{s:ByteArray}{j:Nat}(h:j<s.size)(h2:p (bAt s j)=false):allB p s=false:=decide_eq_false fun hh=>by rw [hh j h] at h2;cases h2
theorem mD {p:Nat→Bool}{s:ByteArray}{f a:Nat}(h:a<s.size)(h2:p (bAt s a)=true):lN p s (f+1) a=lN p s f (a+1):=if_pos ⟨h,h2⟩
theorem ph {p:Nat→Bool}{s:ByteArray}{f a:Nat}(h:¬(a<s.size∧p (bAt s a)=true)):lN p s f a=a:=by
 cases f with
 | zero=>rfl
 | succ f=>exact if_neg h
theorem nS {p:Nat→Bool}{s:ByteArray}:∀(f a:Nat),a≤s.size→s.size≤a+f→a≤lN p s f a∧lN p s f a≤s.size∧(∀j,a≤j→j<lN p s f a→p (bAt s j)=true)∧(lN p s f a<s.size→p (bAt s (lN p s f a))=false)
 | 0,a,h1,h2=>⟨Nat.le_refl _,h1,fun j h3 h4=>absurd h4 (by show ¬j<a;omega),fun h=>absurd h (by show ¬a<s.size;omega)⟩
 | f+1,a,h1,h2=>by
  by_cases h:a<s.size∧p (bAt s a)=true
  ·have h0:=h.1
   rw [mD h.1 h.2]
   obtain⟨g1,g2,g3,g4⟩:=nS (p:=p) (s:=s) f (a+1) omq omq
   refine⟨omq,g2,fun j h3 h4=>?_,g4⟩
   by_cases e:j=a
   ·subst e;exact h.2
   ·exact g3 j omq h4
  ·rw [ph h]
   refine⟨Nat.le_refl _,h1,fun j h3 h4=>by omega,fun h5=>?_⟩
   cases hb:p (bAt s a) with
   | false=>rfl
   | true=>exact absurd ⟨h5,hb⟩ h
theorem zk {p:Nat→Bool}{s:ByteArray}:decide ((lN p s s.size 0:Int)=(s.size:Int))=allB p s:=by
 obtain⟨g1,g2,g3,g4⟩:=nS (p:=p) (s:=s) s.size 0 (Nat.zero_le _) omq
 by_cases h:lN p s s.size 0=s.size
 ·rw [jM fun j hj=>g3 j (Nat.zero_le _) omq]
  simp [h]
 ·rw [iT (show lN p s s.size 0<s.size by omega) (g4 omq)]
  simp;omega
theorem lO (c:Nat):Ctr prog 231 [.c (.v (.int .u8 (c:Int)))] [] (.c (.v (.bool (wD c)))) []:=by
 refine av func231 rfl rfl ?_
 repeat' (first|refine ae ?_|refine aa fun C=>?_|refine ab ?_|(refine xg ?_ ?_<;>intro hG<;>(try cases hG))|refine bD ?_|refine dB ?_)
 all_goals
  (first|refine am ?_|skip);refine bi rfl aN ⟨?_,rfl⟩;refine congrArg (fun s=>AV.c (AC.v (Value.bool s))) ?_
  unfold wD
  (rw [Bool.eq_iff_iff];(try simp only [Bool.and_eq_true,Bool.or_eq_true,Bool.not_eq_true',decide_eq_true_iff,decide_eq_false_iff_not,beq_iff_eq,Bool.and_eq_false_iff,Bool.or_eq_false_iff,bne_iff_ne,ne_eq,Bool.true_eq_false,Bool.false_eq_true,true_iff,false_iff,iff_true,iff_false] at *);first|omega|(simp at *;omega))
theorem uC {c:Nat}(hc:c<256):Ctr prog 170 [.c (.v (.int .u8 (c:Int)))] [] (.c (.v (.bool (wD c)))) []:=by
 refine av func170 rfl rfl ?_
 repeat' (first|refine ae ?_|refine aa fun C=>?_|refine ab ?_|refine pf ?_|refine bD ?_|refine il (ir _ _ _) ?_)
 all_goals
  (first|refine am ?_|skip);refine bi rfl aN ⟨?_,rfl⟩;refine congrArg (fun s=>AV.c (AC.v (Value.bool s))) ?_
  unfold wD inR
  (rw [Bool.eq_iff_iff];(try simp only [Bool.and_eq_true,Bool.or_eq_true,Bool.not_eq_true',decide_eq_true_iff,decide_eq_false_iff_not,beq_iff_eq,Bool.and_eq_false_iff,Bool.or_eq_false_iff,bne_iff_ne,ne_eq,Bool.true_eq_false,Bool.false_eq_true,true_iff,false_iff,iff_true,iff_false] at *);first|omega|(simp at *;omega))
theorem nT {s:ByteArray}(hs:s.size≤1048576):Ctr prog 232 [.c (.v (.string s))] [] (.c (.v (.int .i64 (lN ldB s s.size 0:Nat)))) []:=by
 refine av func232 rfl rfl ?_
 repeat' (first|(apply ay;refine ak ?_)|refine al ?_|refine ab ?_|refine aa fun C=>?_|refine ae ?_|refine ah ?_)
 refine aP (fun k:Nat=>⟨dA [(0,.c (.v (.string s))),(3,.c (.v (.int .i64 (k:Int))))],dq [],0,[],23⟩)
  (fun N k=>k+N=s.size∧lN ldB s s.size 0=lN ldB s N k) s.size 0 ⟨omq,rfl⟩ ?_ ?_
 ·(refine aC _ _ rfl rfl ?_ ?_<;>exact tdy0)
 rintro N k ⟨hN,hr⟩
 try dsimp only
 have c1:=lO (bAt s k)
 have c2:=nQ (bAt s k)
 by_cases hk:k<s.size
 ·obtain⟨M,rfl⟩:∃M,N=M+1:=⟨N-1,omq⟩
  cases h1:wD (bAt s k) with
  | true =>
   rw [h1] at c1
   have hq:lN ldB s s.size 0=lN ldB s M (k+1):=by rw [hr,mD hk (by simp [ldB,h1])]
   repeat' (first|(apply ay;first|refine bO ?_|(refine aU ?_ ?_<;>intro hG<;>(try cases hG))|refine ao ?_|refine ak ?_|refine aI c1 ?_|refine dk ?_|refine aO ?_|refine aD ?_|refine aF ?_|refine gN ?_)|refine al ?_|refine ab ?_|refine aa fun C=>?_|refine ae ?_|refine ah ?_|refine ai ?_|refine au ?_|(refine aj (by rfl) ?_ ?_<;>intro hC<;>(try cases hC)))
   all_goals first
    | (exfalso;simp only [decide_eq_true_iff,decide_eq_false_iff_not] at *;omega)
    | (refine⟨M,k+1,omq,⟨omq,hq⟩,?_⟩;(refine aC _ _ rfl rfl ?_ ?_<;>(repeat' (first|exact TmOk.nil|exact RwOk.nil|refine TmOk.cons ?_ ?_|refine RwOk.cons ?_ ?_|rfl|(refine rnV_id' rfl ?_;exact byc)|(refine bv ?_;first|rfl|omega|(rw [aW omq omq];omega))|(refine aK rfl ?_;exact byc)|exact cb rfl rfl|(refine rw_mid (by rfl) (by rfl) ?_ ?_<;>exact byc)|(refine rw_rn' rfl rfl ?_;simp;done)))))
  | false =>
   rw [h1] at c1
   cases h2:xp (bAt s k) with
   | true =>
    rw [h2] at c2
    have hq:lN ldB s s.size 0=lN ldB s M (k+1):=by rw [hr,mD hk (by simp [ldB,h2])]
    repeat' (first|(apply ay;first|refine bO ?_|(refine aU ?_ ?_<;>intro hG<;>(try cases hG))|refine ao ?_|refine ak ?_|refine aI c1 ?_|refine aI c2 ?_|refine dk ?_|refine aO ?_|refine aD ?_|refine aF ?_|refine gN ?_)|refine al ?_|refine ab ?_|refine aa fun C=>?_|refine ae ?_|refine ah ?_|refine ai ?_|refine au ?_|(refine aj (by rfl) ?_ ?_<;>intro hC<;>(try cases hC)))
    all_goals first
     | (exfalso;simp only [decide_eq_true_iff,decide_eq_false_iff_not] at *;omega)
     | (refine⟨M,k+1,omq,⟨omq,hq⟩,?_⟩;(refine aC _ _ rfl rfl ?_ ?_<;>(repeat' (first|exact TmOk.nil|exact RwOk.nil|refine TmOk.cons ?_ ?_|refine RwOk.cons ?_ ?_|rfl|(refine rnV_id' rfl ?_;exact byc)|(refine bv ?_;first|rfl|omega|(rw [aW omq omq];omega))|(refine aK rfl ?_;exact byc)|exact cb rfl rfl|(refine rw_mid (by rfl) (by rfl) ?_ ?_<;>exact byc)|(refine rw_rn' rfl rfl ?_;simp;done)))))
   | false =>
    rw [h2] at c2
    rw [hr,ph fun h=>by simp [ldB,h1,h2] at h]
    repeat' (first|(apply ay;first|refine bO ?_|(refine aU ?_ ?_<;>intro hG<;>(try cases hG))|refine ao ?_|refine ak ?_|refine aI c1 ?_|refine aI c2 ?_|refine dk ?_|refine aO ?_|refine aF ?_|refine gN ?_)|refine al ?_|refine ab ?_|refine aa fun C=>?_|refine ae ?_|refine au ?_|(refine aj (by rfl) ?_ ?_<;>intro hC<;>(try cases hC)))
    all_goals first
     | (exfalso;simp only [decide_eq_true_iff,decide_eq_false_iff_not] at *;omega)
     | (refine am ?_;refine bi rfl aN ⟨?_,rfl⟩;rfl)
 ·rw [hr,ph fun h=>hk h.1]
  repeat' (first|(apply ay;first|refine bO ?_|(refine aU ?_ ?_<;>intro hG<;>(try cases hG))|refine ao ?_|refine ak ?_|refine aI c1 ?_|refine aI c2 ?_|refine dk ?_|refine aO ?_|refine aD ?_|refine aF ?_|refine gN ?_)|refine al ?_|refine ab ?_|refine aa fun C=>?_|refine ae ?_|refine ah ?_|refine ai ?_|refine au ?_|(refine aj (by rfl) ?_ ?_<;>intro hC<;>(try cases hC)))
  all_goals first
   | (exfalso;simp only [decide_eq_true_iff,decide_eq_false_iff_not] at *;omega)
   | (refine am ?_;refine bi rfl aN ⟨?_,rfl⟩;rfl)
theorem xq {s:ByteArray}(hs:s.size≤1048576):Ctr prog 194 [.c (.v (.string s))] [] (.c (.v (.bool (fR s)))) []:=by
 have cw:=fQ (s.size:Int) 1 8
 have c1:=lO (bAt s 0)
 have c2:=nT hs
 by_cases hb:1≤s.size∧s.size≤8
 ·rw [show inR (s.size:Int) 1 8=true by simp [inR];omega] at cw
  cases h1:wD (bAt s 0) with
  | true =>
   rw [h1] at c1
   rw [show fR s=decide ((lN ldB s s.size 0:Int)=(s.size:Int)) by rw [zk];simp [fR,hb,h1]]
   refine av func194 rfl rfl ?_
   repeat' (first|(apply ay;first|(refine aU ?_ ?_<;>intro hG<;>(try cases hG))|refine ao ?_|refine ak ?_|refine aI cw ?_|refine aI c1 ?_|refine aI c2 ?_|refine dk ?_|refine aq ?_|refine aF ?_|refine gN ?_)|refine al ?_|refine ab ?_|refine aa fun C=>?_|refine ae ?_)
   exact d9
  | false =>
   rw [h1] at c1
   rw [show fR s=false by simp [fR,h1]]
   refine av func194 rfl rfl ?_
   repeat' (first|(apply ay;first|refine bO ?_|(refine aU ?_ ?_<;>intro hG<;>(try cases hG))|refine ao ?_|refine ak ?_|refine aI cw ?_|refine aI c1 ?_|refine dk ?_|refine aF ?_|refine gN ?_)|refine al ?_|refine ab ?_|refine aa fun C=>?_|refine ae ?_)
   exact d9
 ·rw [show inR (s.size:Int) 1 8=false by simp [inR];omega] at cw
  rw [show fR s=false by simp [fR];omega]
  refine av func194 rfl rfl ?_
  repeat' (first|(apply ay;first|refine bO ?_|(refine aU ?_ ?_<;>intro hG<;>(try cases hG))|refine ao ?_|refine ak ?_|refine aI cw ?_|refine dk ?_|refine aF ?_)|refine al ?_|refine ab ?_|refine aa fun C=>?_|refine ae ?_)
  exact d9
theorem xr {s:ByteArray}(hs:s.size≤1048576):Ctr prog 116 [.c (.v (.string s))] [] (.c (.v (.bool (fR s)))) []:=by
 refine av func116 rfl rfl ?_
 repeat' (first|(apply ay;refine ak ?_)|refine al ?_|refine ab ?_|refine aa fun C=>?_|refine ae ?_|refine ah ?_)
 refine aP (fun k:Nat=>⟨dA [(0,.c (.v (.string s))),(3,.c (.v (.int .i64 (k:Int))))],dq [],0,[],29⟩)
  (fun N k=>k+N=s.size∧(∀j,j<k→ldB (bAt s j)=true)∧(0<k→wD (bAt s 0)=true)) s.size 0 ⟨omq,fun j hj=>absurd hj (Nat.not_lt_zero j),fun h=>absurd h (Nat.lt_irrefl 0)⟩ ?_ ?_
 ·(refine aC _ _ rfl rfl ?_ ?_<;>exact tdy0)
 rintro N k ⟨hN,hr,hr0⟩
 try dsimp only
 have c1:=uC (fu s k)
 have c2:=nR (fu s k)
 have c3:=ir (s.size:Int) 1 8
 repeat' (first|(apply ay;first|refine ao ?_|refine dk ?_|refine aO ?_)|refine al ?_|refine ab ?_|refine aa fun C=>?_|refine ae ?_)
 refine aj (by rfl) (fun hk=>?_) fun hk=>?_
 ·have hk':k<s.size:=by simpa using hk
  cases h1:wD (bAt s k) with
  | true =>
   rw [h1] at c1
   repeat' (first|(apply ay;first|refine bO ?_|(refine aU ?_ ?_<;>intro hG<;>(try cases hG))|refine ao ?_|refine ak ?_|refine aI c1 ?_|refine aD ?_|refine bF ?_|refine aF ?_|refine gN ?_)|refine al ?_|refine ab ?_|refine aa fun C=>?_|refine ae ?_|refine ah ?_|refine ai ?_|refine aE rfl ?_)
   refine⟨N-1,k+1,omq,⟨omq,fun j hj=>?_,fun _=>?_⟩,?_⟩
   ·by_cases e:j=k
    ·subst e;simp [ldB,h1]
    ·exact hr j omq
   ·by_cases e:k=0
    ·subst e;exact h1
    ·exact hr0 omq
   ·(refine aC _ _ rfl rfl ?_ ?_<;>exact tdy0)
  | false =>
   rw [h1] at c1
   by_cases h0:k=0
   ·subst h0
    rw [show fR s=false by simp [fR,h1]]
    repeat' (first|(apply ay;first|refine bO ?_|(refine aU ?_ ?_<;>intro hG<;>(try cases hG))|refine ao ?_|refine ak ?_|refine aI c1 ?_|refine aq ?_|refine bF ?_|refine aF ?_|refine gN ?_)|refine al ?_|refine ab ?_|refine aa fun C=>?_|refine ae ?_|refine ah ?_|refine ai ?_|refine az rfl ?_)
    exact d9
   ·cases h2:xp (bAt s k) with
    | true =>
     rw [h2] at c2
     repeat' (first|(apply ay;first|refine bO ?_|(refine aU ?_ ?_<;>intro hG<;>(try cases hG))|refine ao ?_|refine ak ?_|refine aI c1 ?_|refine aI c2 ?_|refine aq ?_|refine aD ?_|refine bF ?_|refine aF ?_|refine gN ?_)|refine al ?_|refine ab ?_|refine aa fun C=>?_|refine ae ?_|refine ah ?_|refine ai ?_|(refine aj (by rfl) ?_ ?_<;>intro hC<;>(try cases hC)))
     all_goals first
      | (refine absurd hG ?_;simp;omega)
      | (refine⟨N-1,k+1,omq,⟨omq,fun j hj=>?_,fun _=>hr0 omq⟩,?_⟩
         ·by_cases e:j=k
          ·subst e;simp [ldB,h2]
          ·exact hr j omq
         ·(refine aC _ _ rfl rfl ?_ ?_<;>(repeat' (first|exact TmOk.nil|exact RwOk.nil|refine TmOk.cons ?_ ?_|refine RwOk.cons ?_ ?_|rfl|(refine rnV_id' rfl ?_;exact byc)|(refine bv ?_;first|rfl|omega|(rw [aW omq omq];omega))|(refine aK rfl ?_;exact byc)|exact cb rfl rfl|(refine rw_mid (by rfl) (by rfl) ?_ ?_<;>exact byc)|(refine rw_rn' rfl rfl ?_;simp;done)))))
    | false =>
     rw [h2] at c2
     rw [show fR s=false by simp [fR,iT hk' (show ldB (bAt s k)=false by simp [ldB,h1,h2])]]
     repeat' (first|(apply ay;first|refine bO ?_|(refine aU ?_ ?_<;>intro hG<;>(try cases hG))|refine ao ?_|refine ak ?_|refine aI c1 ?_|refine aI c2 ?_|refine aq ?_|refine bF ?_|refine aF ?_|refine gN ?_)|refine al ?_|refine ab ?_|refine aa fun C=>?_|refine ae ?_|refine ah ?_|refine ai ?_|(refine aj (by rfl) ?_ ?_<;>intro hC<;>(try cases hC)))
     all_goals first
      | (refine absurd hG ?_;simp;omega)
      | (refine am ?_;refine bi rfl aN ⟨?_,rfl⟩;rfl)
 ·have hk':¬k<s.size:=by simpa using hk
  have ha:allB ldB s=true:=jM fun j hj=>hr j omq
  have hk2:k=s.size:=by omega
  rw [show fR s=inR (s.size:Int) 1 8 by
   by_cases hz:0<s.size
   ·have e0:=hr0 omq
    simp only [fR,ha,e0,inR,Bool.and_true]
    congr 1<;>(apply decide_eq_decide.2;omega)
   ·have e1:decide (1≤s.size)=false:=decide_eq_false omq
    have e2:decide ((1:Int)≤(s.size:Int))=false:=decide_eq_false omq
    simp only [fR,inR,e1,e2,Bool.false_and]]
  repeat' (first|(apply ay;first|refine ao ?_|refine ak ?_|refine aI c3 ?_|refine dk ?_)|refine al ?_|refine ab ?_|refine aa fun C=>?_|refine ae ?_|refine au ?_)
  exact d9
theorem uD {s:ByteArray}(hs:s.size≤1048576){b:Nat}(hb:b<256):Ctr prog 257 [.c (.v (.string s)),.c (.v (.int .u8 (b:Int)))] [] (.c (.v (.bool (allB (plB b) s)))) []:=by
 refine av func257 rfl rfl ?_
 repeat' (first|(apply ay;refine ak ?_)|refine al ?_|refine ab ?_|refine aa fun C=>?_|refine ae ?_|refine ah ?_)
 refine aP (fun k:Nat=>⟨dA [(0,.c (.v (.string s))),(1,.c (.v (.int .u8 (b:Int)))),(5,.c (.v (.int .i64 (k:Int))))],dq [],0,[],25⟩)
  (fun N k=>k+N=s.size∧∀j,j<k→plB b (bAt s j)=true) s.size 0 ⟨omq,fun j hj=>absurd hj (Nat.not_lt_zero j)⟩ ?_ ?_
 ·(refine aC _ _ rfl rfl ?_ ?_<;>exact tdy0)
 rintro N k ⟨hN,hr⟩
 try dsimp only
 have hlt:=fu s k
 have c1:=fQ (bAt s k:Int) 32 126
 repeat' (first|(apply ay;first|refine ao ?_|refine dk ?_|refine aO ?_)|refine al ?_|refine ab ?_|refine aa fun C=>?_|refine ae ?_)
 refine aj (by rfl) (fun hk=>?_) fun hk=>?_
 ·have hk':k<s.size:=by simpa using hk
  by_cases h1:32≤bAt s k∧bAt s k≤126
  ·rw [show inR (bAt s k:Int) 32 126=true by simp [inR];omega] at c1
   repeat' (first|(apply ay;first|(refine aU ?_ ?_<;>intro hG<;>(try cases hG))|refine ao ?_|refine aI c1 ?_|refine bQ ?_|refine bF ?_|refine aF ?_|refine iq ?_|refine gN ?_)|refine al ?_|refine ab ?_|refine aa fun C=>?_|refine ae ?_|refine ah ?_|refine ai ?_)
   refine aj (by rfl) (fun hC=>?_) fun hC=>?_
   ·have e:bAt s k=b:=by have:=eq_of_beq hC;omega
    rw [iT hk' (show plB b (bAt s k)=false by simp [plB,e])]
    repeat' (first|(apply ay;refine ak ?_)|refine al ?_|refine ab ?_|refine aa fun C=>?_|refine ae ?_)
    exact d9
   ·have e:bAt s k≠b:=by have:=ne_of_beq_false hC;omega
    repeat' (first|(apply ay;first|refine ao ?_|refine ak ?_|refine aD ?_)|refine al ?_|refine ab ?_|refine aa fun C=>?_|refine ai ?_)
    refine⟨N-1,k+1,omq,⟨omq,fun j hj=>?_⟩,?_⟩
    ·by_cases e2:j=k
     ·subst e2;simp [plB,h1,e]
     ·exact hr j omq
    ·(refine aC _ _ rfl rfl ?_ ?_<;>exact tdy0)
  ·rw [show inR (bAt s k:Int) 32 126=false by simp [inR];omega] at c1
   rw [iT hk' (show plB b (bAt s k)=false by simp [plB];omega)]
   repeat' (first|(apply ay;first|refine bO ?_|(refine aU ?_ ?_<;>intro hG<;>(try cases hG))|refine ao ?_|refine ak ?_|refine aI c1 ?_|refine bF ?_|refine aF ?_|refine iq ?_|refine gN ?_)|refine al ?_|refine ab ?_|refine aa fun C=>?_|refine ae ?_|refine ah ?_|refine ai ?_|refine az rfl ?_)
   exact d9
 ·have hk':¬k<s.size:=by simpa using hk
  rw [jM fun j hj=>hr j omq]
  repeat' (first|(apply ay;refine ak ?_)|refine al ?_|refine ab ?_|refine aa fun C=>?_|refine ae ?_|refine au ?_)
  exact d9
theorem uE {s:ByteArray}(hs:s.size≤1048576){b:Nat}(hb:b<256):Ctr prog 238 [.c (.v (.string s)),.c (.v (.int .u8 (b:Int)))] [] (.c (.v (.bool (gY b s)))) []:=by
 refine av func238 rfl rfl ?_
 repeat' (first|(apply ay;refine ak ?_)|refine al ?_|refine ab ?_|refine aa fun C=>?_|refine ae ?_|refine ah ?_)
 refine aP (fun k:Nat=>⟨dA [(0,.c (.v (.string s))),(1,.c (.v (.int .u8 (b:Int)))),(5,.c (.v (.int .i64 (k:Int))))],dq [],0,[],28⟩)
  (fun N k=>k+N=s.size∧∀j,j<k→plB b (bAt s j)=true) s.size 0 ⟨omq,fun j hj=>absurd hj (Nat.not_lt_zero j)⟩ ?_ ?_
 ·(refine aC _ _ rfl rfl ?_ ?_<;>exact tdy0)
 rintro N k ⟨hN,hr⟩
 try dsimp only
 have hlt:=fu s k
 have c1:=ir (bAt s k:Int) 32 126
 repeat' (first|(apply ay;first|refine ao ?_|refine dk ?_|refine aO ?_)|refine al ?_|refine ab ?_|refine aa fun C=>?_|refine ae ?_)
 refine aj (by rfl) (fun hk=>?_) fun hk=>?_
 ·have hk':k<s.size:=by simpa using hk
  by_cases h1:32≤bAt s k∧bAt s k≤126
  ·rw [show inR (bAt s k:Int) 32 126=true by simp [inR];omega] at c1
   repeat' (first|(apply ay;first|(refine aU ?_ ?_<;>intro hG<;>(try cases hG))|refine ao ?_|refine aI c1 ?_|refine bQ ?_|refine bF ?_|refine aF ?_|refine iq ?_|refine gN ?_)|refine al ?_|refine ab ?_|refine aa fun C=>?_|refine ae ?_|refine ah ?_|refine ai ?_)
   refine aj (by rfl) (fun hC=>?_) fun hC=>?_
   ·have e:bAt s k=b:=by have:=eq_of_beq hC;omega
    rw [show gY b s=false by simp [gY,iT hk' (show plB b (bAt s k)=false by simp [plB,e])]]
    repeat' (first|(apply ay;refine ak ?_)|refine al ?_|refine ab ?_|refine aa fun C=>?_|refine ae ?_)
    exact d9
   ·have e:bAt s k≠b:=by have:=ne_of_beq_false hC;omega
    repeat' (first|(apply ay;first|refine ao ?_|refine ak ?_|refine aD ?_)|refine al ?_|refine ab ?_|refine aa fun C=>?_|refine ai ?_)
    refine⟨N-1,k+1,omq,⟨omq,fun j hj=>?_⟩,?_⟩
    ·by_cases e2:j=k
     ·subst e2;simp [plB,h1,e]
     ·exact hr j omq
    ·(refine aC _ _ rfl rfl ?_ ?_<;>exact tdy0)
  ·rw [show inR (bAt s k:Int) 32 126=false by simp [inR];omega] at c1
   rw [show gY b s=false by simp [gY,iT hk' (show plB b (bAt s k)=false by simp [plB];omega)]]
   repeat' (first|(apply ay;first|refine bO ?_|(refine aU ?_ ?_<;>intro hG<;>(try cases hG))|refine ao ?_|refine ak ?_|refine aI c1 ?_|refine bF ?_|refine aF ?_|refine iq ?_|refine gN ?_)|refine al ?_|refine ab ?_|refine aa fun C=>?_|refine ae ?_|refine ah ?_|refine ai ?_|refine az rfl ?_)
   exact d9
 ·have hk':¬k<s.size:=by simpa using hk
  rw [show gY b s=decide (s.size≤200) by simp [gY,jM fun j (hj:j<s.size)=>hr j omq]]
  repeat' (first|(apply ay;first|refine ao ?_|refine ak ?_|refine dk ?_|refine bz ?_)|refine al ?_|refine ab ?_|refine aa fun C=>?_|refine ae ?_|refine au ?_)
  (first|refine am ?_|skip);refine bi rfl aN ⟨?_,rfl⟩;refine congrArg (fun s=>AV.c (AC.v (Value.bool s))) ?_
  (rw [Bool.eq_iff_iff];(try simp only [Bool.and_eq_true,Bool.or_eq_true,Bool.not_eq_true',decide_eq_true_iff,decide_eq_false_iff_not,beq_iff_eq,Bool.and_eq_false_iff,Bool.or_eq_false_iff,bne_iff_ne,ne_eq,Bool.true_eq_false,Bool.false_eq_true,true_iff,false_iff,iff_true,iff_false] at *);first|omega|(simp at *;omega))
theorem xt {s:ByteArray}(hs:s.size≤1048576):Ctr prog 249 [.c (.v (.string s))] [] (.c (.v (.bool (gY 39 s)))) []:=by
 have c1:=uD hs (b:=39) omq
 refine av func249 rfl rfl ?_
 repeat' (first|(apply ay;first|refine bO ?_|(refine aU ?_ ?_<;>intro hG<;>(try cases hG))|refine ao ?_|refine ak ?_|refine aI c1 ?_|refine dk ?_|refine bz ?_|refine aF ?_)|refine al ?_|refine ab ?_|refine aa fun C=>?_|refine ae ?_)
 all_goals
  (first|refine am ?_|skip);refine bi rfl aN ⟨?_,rfl⟩;refine congrArg (fun s=>AV.c (AC.v (Value.bool s))) ?_
  unfold gY
  (rw [Bool.eq_iff_iff];(try simp only [Bool.and_eq_true,Bool.or_eq_true,Bool.not_eq_true',decide_eq_true_iff,decide_eq_false_iff_not,beq_iff_eq,Bool.and_eq_false_iff,Bool.or_eq_false_iff,bne_iff_ne,ne_eq,Bool.true_eq_false,Bool.false_eq_true,true_iff,false_iff,iff_true,iff_false] at *);first|omega|(simp at *;omega))
def gpI (b:Nat)(c:E→Nat):List E→Nat→Nat
 | [],n=>n
 | x :: r,n=>if b<n+c x then b+1 else gpI b c r (n+c x)
def ni (b:Nat)(hd:E→Bool)(kd:E→List E):Nat→E→Nat
 | 0,_=>b+1
 | f+1,e=>if hd e=true then gpI b (ni b hd kd f) (kd e) 1 else b+1
def gpS (b:Nat)(c:E→Nat):List E→Nat→Nat
 | [],n=>n
 | x :: r,n=>if n≤b then gpS b c r (n+c x) else n
def zgQ (b:Nat)(kd:E→List E):Nat→E→Nat
 | 0,_=>b+1
 | f+1,e=>gpS b (zgQ b kd f) (kd e) 1
def okF (hd:E→Bool)(kd:E→List E):Nat→E→Bool
 | 0,_=>false
 | f+1,e=>(kd e).all (okF hd kd f)&&hd e
def okE (hd:E→Bool)(kd:E→List E)(e:E):Bool:=okF hd kd (e.sz+1) e
section
variable {b:Nat}{hd:E→Bool}{kd:E→List E}
theorem uF (hk:∀e x,x∈kd e→x.sz<e.sz):∀(n f:Nat) (e:E),e.sz<n→e.sz<f→okF hd kd f e=okE hd kd e
 | 0,_,_,h,_=>absurd h (Nat.not_lt_zero _)
 | n+1,0,_,_,h=>absurd h (Nat.not_lt_zero _)
 | n+1,f+1,e,h1,h2=>by
  have key:∀x∈kd e,okF hd kd f x=okF hd kd e.sz x:=fun x hx=>by
   have hs:=hk e x hx
   rw [uF hk n f x omq omq,uF hk n e.sz x omq hs]
  show ((kd e).all (okF hd kd f)&&hd e)=((kd e).all (okF hd kd e.sz)&&hd e)
  congr 1
  apply Bool.eq_iff_iff.2
  simp only [List.all_eq_true]
  exact⟨fun h x hx=>by rw [←key x hx];exact h x hx,fun h x hx=>by rw [key x hx];exact h x hx⟩
theorem jN (hk:∀e x,x∈kd e→x.sz<e.sz)(e:E):okE hd kd e=((kd e).all (okE hd kd)&&hd e):=by
 show ((kd e).all (okF hd kd e.sz)&&hd e)=_
 congr 1
 apply Bool.eq_iff_iff.2
 simp only [List.all_eq_true]
 have key:∀x∈kd e,okF hd kd e.sz x=okE hd kd x:=fun x hx=>uF hk (x.sz+1) e.sz x omq (hk e x hx)
 exact⟨fun h x hx=>by rw [←key x hx];exact h x hx,fun h x hx=>by rw [key x hx];exact h x hx⟩
theorem uG {c:E→Nat}:∀(l:List E) (n:Nat),n≤gpS b c l n
 | [],n=>Nat.le_refl _
 | x :: r,n=>by
  unfold gpS
  split
  ·exact Nat.le_trans (Nat.le_add_right _ _) (uG r _)
  ·exact Nat.le_refl _
theorem uH {ci cs:E→Nat}{ok:E→Bool}(h:∀x,(ci x≤b↔cs x≤b∧ok x=true)∧(ci x≤b→ci x=cs x)):∀(l:List E) (n:Nat),n≤b →
 (gpI b ci l n≤b↔gpS b cs l n≤b∧l.all ok=true)∧(gpI b ci l n≤b→gpI b ci l n=gpS b cs l n)
 | [],n,hn=>⟨⟨fun h=>⟨h,rfl⟩,fun h=>h.1⟩,fun _=>rfl⟩
 | x :: r,n,hn=>by
  obtain⟨h1,h2⟩:=h x
  have e1:gpS b cs (x :: r) n=gpS b cs r (n+cs x):=if_pos hn
  rw [e1,List.all_cons]
  by_cases hx:ci x≤b
  ·obtain⟨g1,g2⟩:=h1.1 hx
   rw [←h2 hx,g2,Bool.true_and]
   by_cases hm:b<n+ci x
   ·have e2:gpI b ci (x :: r) n=b+1:=if_pos hm
    rw [e2]
    have:=uG (b:=b) (c:=cs) r (n+ci x)
    exact⟨⟨fun h=>by omega,fun h=>by omega⟩,fun h=>by omega⟩
   ·have e2:gpI b ci (x :: r) n=gpI b ci r (n+ci x):=if_neg hm
    rw [e2]
    exact uH h r (n+ci x) omq
  ·have e2:gpI b ci (x :: r) n=b+1:=if_pos omq
   rw [e2]
   refine⟨⟨fun h=>by omega,fun hh=>?_⟩,fun h=>by omega⟩
   obtain⟨g1,g2⟩:=hh
   rw [Bool.and_eq_true] at g2
   have:=uG (b:=b) (c:=cs) r (n+cs x)
   exact absurd (h1.2 ⟨omq,g2.1⟩) hx
theorem uI (hb:1≤b)(hk:∀e x,x∈kd e→x.sz<e.sz):∀(f:Nat) (e:E),(ni b hd kd f e≤b↔zgQ b kd f e≤b∧okE hd kd e=true)∧(ni b hd kd f e≤b→ni b hd kd f e=zgQ b kd f e)
 | 0,e=>⟨⟨fun h=>absurd h (by show ¬b+1≤b;omega),fun h=>absurd h.1 (by show ¬b+1≤b;omega)⟩,fun h=>absurd h (by show ¬b+1≤b;omega)⟩
 | f+1,e=>by
  rw [jN hk e]
  by_cases hh:hd e=true
  ·have e1:ni b hd kd (f+1) e=gpI b (ni b hd kd f) (kd e) 1:=if_pos hh
   rw [e1,hh,Bool.and_true]
   exact uH (uI hb hk f) (kd e) 1 hb
  ·have e1:ni b hd kd (f+1) e=b+1:=if_neg hh
   have e2:hd e=false:=by cases h:hd e with
    | false=>rfl
    | true=>exact absurd h hh
   rw [e1,e2,Bool.and_false]
   exact⟨⟨fun h=>by omega,fun h=>by cases h.2⟩,fun h=>by omega⟩
theorem zhQ (hb:1≤b)(hk:∀e x,x∈kd e→x.sz<e.sz)(f:Nat)(e:E):decide (ni b hd kd f e≤b)=(decide (zgQ b kd f e≤b)&&okE hd kd e):=by
 obtain⟨h1,-⟩:=uI (hd:=hd) hb hk f e
 apply Bool.eq_iff_iff.2
 simp only [Bool.and_eq_true,decide_eq_true_iff]
 exact h1
theorem ziQ {c:E→Nat}:∀(l:List E) (n:Nat),n≤b→gpI b c l n≤b+1
 | [],n,h=>by show n≤b+1;omega
 | x :: r,n,h=>by
  unfold gpI
  split
  ·exact Nat.le_refl _
  ·exact ziQ r _ omq
theorem uJ:∀(f:Nat) (e:E),1≤b→ni b hd kd f e≤b+1
 | 0,_,_=>Nat.le_refl _
 | f+1,e,h=>by
  unfold ni
  split
  ·exact ziQ _ _ h
  ·exact Nat.le_refl _
theorem zjQ {c:E→Nat}{m:Nat}(hc:∀x,c x≤m):∀(l:List E) (n:Nat),n≤b+m→gpS b c l n≤b+m
 | [],n,h=>h
 | x :: r,n,h=>by
  unfold gpS
  split
  ·exact zjQ hc r _ (by have:=hc x;omega)
  ·exact h
theorem pi:∀(f:Nat) (e:E),1≤b→zgQ b kd f e≤b+1+b*f
 | 0,_,_=>by show b+1≤b+1+b*0;omega
 | f+1,e,h=>by
  show gpS b (zgQ b kd f) (kd e) 1≤_
  have:=zjQ (b:=b) (m:=b+1+b*f) (fun x=>pi f x h) (kd e) 1 omq
  rw [Nat.mul_succ]
  omega
end
def lm (c:Nat):Bool:=(decide (97≤c)&&decide (c≤122))||(decide (65≤c)&&decide (c≤90))||(decide (48≤c)&&decide (c≤57))||c==32||c==95||c==45||c==44||c==58
def et (s:ByteArray)(i:Nat):Bool:=lm (bAt s i)&&(i==0||decide (bAt s (i-1)<bAt s i))
def gu (s:ByteArray):Bool:=(List.range s.size).all (et s)&&(decide (1≤s.size)&&decide (s.size≤10))
def fy (k:Int):Bool:=k==6||k==7||k==8
def cU (k:Int)(s:ByteArray)(l:List E):E:=.agg [.int .i64 k,.str s,.lst 3 39 none 0 l]
def cV:E:=cU 0 ByteArray.empty []
def E.rk:E→Int
 | .agg (.int _ k :: _)=>k
 | _=>0
def E.rs:E→ByteArray
 | .agg (_ :: .str s :: _)=>s
 | _=>ByteArray.empty
def E.rl:E→List E
 | .agg (_ :: _ :: .lst _ _ _ _ l :: _)=>l
 | _=>[]
def eO (k:Int)(s:ByteArray)(l:List E):Bool :=
 if k=1 then s.size==1&&lm (bAt s 0)&&l.length==0
 else if k=3 then gu s&&l.length==0
 else if k=2∨k=9∨k=10∨k=11 then s.size==0&&l.length==0
 else if k=4∨k=5 then s.size==0&&(decide (2≤l.length)&&decide (l.length≤8))
 else if k=6∨k=7∨k=8 then s.size==0&&l.length==1&&!(l.any fun x=>fy x.rk)
 else false
def ls (e:E):Bool:=eO e.rk e.rs e.rl&&!((e.rk==4||e.rk==5)&&e.rl.any fun x=>x.rk==e.rk)
def jk (g:E→Nat):List E→Nat→Nat
 | [],n=>n
 | x :: r,n=>if 61≤n+g x then 61 else jk g r (n+g x)
def bM:Nat→E→Nat
 | 0,_=>61
 | f+1,e=>if ls e then jk (bM f) e.rl 1 else 61
def lP (g:E→Nat):List E→Nat→Nat
 | [],n=>n
 | x :: r,n=>if n≤60 then lP g r (n+g x) else n
def c9:Nat→E→Nat
 | 0,_=>61
 | f+1,e=>lP (c9 f) e.rl 1
def okS:Nat→E→Bool
 | 0,_=>false
 | f+1,e=>(e.rl.all fun x=>okS f x&&!(x.rk==e.rk&&!fy e.rk))&&eO e.rk e.rs e.rl
def d6 (e:E):Bool:=decide (bM 6 e≤60)
def ko (e:E):Bool:=decide (c9 6 e≤60)&&okS 6 e
theorem uK (g:E→Nat):∀(l:List E) (n:Nat),n≤61→jk g l n≤61
 | [],n,h=>h
 | x :: r,n,h=>by
  unfold jk
  split
  ·omega
  ·exact uK g r _ omq
theorem uL (f:Nat)(e:E):bM f e≤61:=by
 cases f with
 | zero=>exact Nat.le_refl _
 | succ f=>unfold bM;split<;>first|exact uK _ _ _ omq|omega
theorem iU {g:E→Nat}:∀{l:List E} {n:Nat},jk g l n≤60→n≤60∧(∀x∈l,g x≤60)
 | [],n,h=>⟨h,fun x hx=>absurd hx List.not_mem_nil⟩
 | x :: r,n,h=>by
  unfold jk at h
  split at h
  ·omega
  ·rename_i hn
   obtain⟨h1,h2⟩:=iU h
   exact⟨omq,fun y hy=>by rcases List.mem_cons.1 hy with rfl|hy;·omega
                          ·exact h2 y hy⟩
theorem pj {g:E→Nat}:∀(l:List E) (n:Nat),n≤lP g l n
 | [],n=>Nat.le_refl _
 | x :: r,n=>by
  unfold lP
  split
  ·exact Nat.le_trans (Nat.le_add_right _ _) (pj r _)
  ·exact Nat.le_refl _
theorem kq {g:E→Nat}:∀{l:List E} {n:Nat},lP g l n≤60→n≤60∧(∀x∈l,g x≤60)
 | [],n,h=>⟨h,fun x hx=>absurd hx List.not_mem_nil⟩
 | x :: r,n,h=>by
  unfold lP at h
  split at h
  ·rename_i hn
   have h0:=pj r (n+g x) (g:=g)
   obtain⟨h1,h2⟩:=kq h
   exact⟨hn,fun y hy=>by rcases List.mem_cons.1 hy with rfl|hy;·omega
                         ·exact h2 y hy⟩
  ·omega
theorem qK {g h:E→Nat}:∀{l:List E} (n:Nat),(∀x∈l,g x≤60→h x=g x)→jk g l n≤60→lP h l n=jk g l n
 | [],n,_,_=>rfl
 | x :: r,n,hx,hs=>by
  have h0:=(iU hs).1
  have h1:=(iU hs).2 x List.mem_cons_self
  unfold jk at hs ⊢
  unfold lP
  rw [if_pos h0,hx x List.mem_cons_self h1]
  split at hs
  ·omega
  ·rename_i hn;rw [if_neg hn];exact qK _ (fun y hy=>hx y (List.mem_cons_of_mem _ hy)) hs
theorem sum_same' {g h:E→Nat}:∀{l:List E} (n:Nat),(∀x∈l,h x≤60→g x=h x)→lP h l n≤60→jk g l n=lP h l n
 | [],n,_,_=>rfl
 | x :: r,n,hx,hs=>by
  have h0:=(kq hs).1
  have h1:=(kq hs).2 x List.mem_cons_self
  unfold lP at hs ⊢
  unfold jk
  rw [if_pos h0] at hs ⊢
  have h2:=pj r (n+h x) (g:=h)
  rw [hx x List.mem_cons_self h1,if_neg omq]
  exact sum_same' _ (fun y hy=>hx y (List.mem_cons_of_mem _ hy)) hs
theorem xu {e:E}(h1:eO e.rk e.rs e.rl=true)(h2:(e.rl.all fun x=>!(x.rk==e.rk&&!fy e.rk))=true):ls e=true:=by
 unfold ls
 rw [h1,Bool.true_and,Bool.not_eq_true',Bool.and_eq_false_iff]
 by_cases hk:(e.rk==4||e.rk==5)=true
 ·right
  rw [Bool.eq_false_iff]
  intro h
  obtain⟨x,hx,hxk⟩:=List.any_eq_true.1 h
  have:=List.all_eq_true.1 h2 x hx
  rw [hxk] at this
  have h3:fy e.rk=false:=by
   unfold fy
   rcases Bool.or_eq_true_iff.1 hk with hk|hk<;>rw [eq_of_beq hk]<;>rfl
  rw [h3] at this
  cases this
 ·left;simpa using hk
theorem uM {e:E}(h:ls e=true):eO e.rk e.rs e.rl=true∧(e.rl.all fun x=>!(x.rk==e.rk&&!fy e.rk))=true:=by
 unfold ls at h
 rw [Bool.and_eq_true] at h
 refine⟨h.1,List.all_eq_true.2 fun x hx=>?_⟩
 rw [Bool.not_eq_true',Bool.eq_false_iff]
 intro hc
 rw [Bool.and_eq_true,Bool.not_eq_true'] at hc
 have h2:=h.2
 rw [Bool.not_eq_true',Bool.and_eq_false_iff] at h2
 have hk:(e.rl.any fun y=>y.rk==e.rk)=true:=List.any_eq_true.2 ⟨x,hx,hc.1⟩
 rcases h2 with h2|h2
 ·have h1:=h.1
  unfold eO at h1
  by_cases k4:e.rk=4
  ·rw [k4] at h2;cases h2
  by_cases k5:e.rk=5
  ·rw [k5] at h2;cases h2
  have hl:¬e.rl.length=0:=fun h0=>by rw [List.length_eq_zero_iff.1 h0] at hx;exact absurd hx List.not_mem_nil
  have hlk:¬(e.rk=6∨e.rk=7∨e.rk=8):=fun h0=>by
   have:=hc.2
   unfold fy at this
   rcases h0 with h0|h0|h0<;>rw [h0] at this<;>cases this
  have hl':(e.rl.length==0)=false:=by simpa using hl
  simp only [hl',Bool.and_false,hlk,if_false,k4,k5,or_self] at h1
  split at h1<;>(try cases h1)
  split at h1<;>(try cases h1)
  split at h1<;>cases h1
 ·rw [hk] at h2;cases h2
theorem qL (f:Nat):∀e:E,(bM f e≤60↔c9 f e≤60∧okS f e=true)∧(bM f e≤60→c9 f e=bM f e):=by
 induction f with
 | zero=>intro e;simp [bM,c9,okS]
 | succ f ih =>
  intro e
  have key:bM (f+1) e≤60→c9 (f+1) e=bM (f+1) e∧okS (f+1) e=true:=by
   intro h
   unfold bM at h ⊢
   split at h
   ·rename_i hh
    rw [if_pos hh]
    have h1:=(iU h).2
    refine⟨?_,?_⟩
    ·unfold c9
     exact qK _ (fun x hx hp=>(ih x).2 hp) h
    ·unfold okS
     obtain⟨h3,h4⟩:=uM hh
     rw [h3,Bool.and_true]
     refine List.all_eq_true.2 fun x hx=>?_
     rw [((ih x).1.1 (h1 x hx)).2,Bool.true_and]
     exact List.all_eq_true.1 h4 x hx
   ·omega
  refine⟨⟨fun h=>⟨by rw [(key h).1];exact h,(key h).2⟩,fun ⟨h1,h2⟩=>?_⟩,fun h=>(key h).1⟩
  unfold okS at h2
  rw [Bool.and_eq_true] at h2
  have hall:=List.all_eq_true.1 h2.1
  have hh:ls e=true:=xu h2.2 (List.all_eq_true.2 fun x hx=>(Bool.and_eq_true_iff.1 (hall x hx)).2)
  unfold bM
  rw [if_pos hh]
  unfold c9 at h1
  have h3:=(kq h1).2
  rw [sum_same' (h:=c9 f) _ (fun x hx hp=>?_) h1]
  ·exact h1
  ·exact ((ih x).2 ((ih x).1.2 ⟨hp,(Bool.and_eq_true_iff.1 (hall x hx)).1⟩)).symm
theorem rP (e:E):d6 e=ko e:=by
 unfold d6 ko
 have h:=(qL 6 e).1
 by_cases h1:bM 6 e≤60
 ·have:=h.1 h1
  simp [h1,this]
 ·have h2:¬(c9 6 e≤60∧okS 6 e=true):=fun q=>h1 (h.2 q)
  simp only [h1,decide_false]
  by_cases h3:c9 6 e≤60
  ·have:okS 6 e=false:=by simpa using fun q=>h2 ⟨h3,q⟩
   simp [this]
  ·simp [h3]
end Go.Proofs.YtmnneflenebgmaaGreat
