/- T -/
import Derived.Test.YtmnneflenebgmaaGreatCnOR
set_option maxHeartbeats 0
set_option maxRecDepth 100000
namespace Go.Proofs.YtmnneflenebgmaaGreat
open Go.RowKit Go.Proofs.Tryz
theorem cls0 {p:Prop}(h:p:=by first|exact ba _|exact aH _|exact bytC_clo _|(simp [bf,clo,ba,aH,bq,bp,aZ];done)|(simp [bf,clo,opC,opL,ba,aH,bq,bp,aZ];done)|fail):p:=h
def fb (s:ByteArray)(p:PS):List AC:=[.v (.string s),.v (.int .i64 (p.a:Int)),.v (.int .i64 (p.d:Int)),.v (.bool p.b)]
theorem lW {s:ByteArray}(hs:s.size≤1048576){p:PS}:Ctr prog 111 [.c (.pt 0 0)] [fb s p] (.c (.v (.int .u8 (bAt s p.a:Int)))) [fb s p]:=by
 obtain⟨a,d,b⟩:=p
 refine av func111 rfl rfl ?_
 unfold fb
 dsimp only
 repeat' (first|(apply ay;refine ak ?_)|refine al ?_|refine ab ?_|(apply fH;first|(apply gg;refine bg ?_)|refine gX ?_|refine dJ ?_|refine fw ?_|(apply lL;refine bg ?_)|refine bg ?_)|refine al ?_|refine ab ?_|refine aa fun C=>?_|refine ar (by kernel_rfl) (by kernel_rfl) fun C=>?_|refine ae ?_)
 refine aj (by rfl) (fun hC=>?_) fun hC=>?_
 ·repeat' (first|(apply ay;refine ak ?_)|refine al ?_|refine ab ?_|refine aa fun C=>?_|refine ae ?_)
  refine am ?_;refine eo rfl aN rfl (by first|rfl|(simp [bf,clo,ba,aH,bq,bp,aZ];done)) rfl ⟨?_,?_⟩
  ·rw [iW (by simp only [decide_eq_true_iff] at hC;omega)];rfl
  ·rfl
 ·have hlt:a<s.size:=by simp only [decide_eq_false_iff_not] at hC;omega
  repeat' (first|(apply fH;first|(apply gg;refine bg ?_)|(apply d_as;refine bg ?_)|refine gX ?_|refine dJ ?_|refine iS ?_|refine bg ?_)|refine al ?_|refine ab ?_|refine ar (by kernel_rfl) (by kernel_rfl) fun C=>?_|refine ae ?_|refine ai ?_)
  refine am ?_;refine eo rfl aN rfl (by first|rfl|(simp [bf,clo,ba,aH,bq,bp,aZ];done)) rfl ⟨?_,?_⟩
  ·rfl
  ·rfl
theorem pu {s:ByteArray}{a b k:Nat}(hb:b≤s.size):(eV s a b).data.toList[k]? = if a+k<b then some (UInt8.ofNat (bAt s (a+k))) else none:=by
 unfold eV bAt
 rw [Array.getElem?_toList,ByteArray.data_extract,Array.getElem?_extract]
 have e:s.data.size=s.size:=rfl
 by_cases h:a+k<b
 ·rw [if_pos h,if_pos omq,Array.getElem?_eq_getElem (show a+k<s.data.size by omega),Option.getD_some,UInt8.ofNat_toNat]
 ·rw [if_neg h,if_neg omq]
theorem iD {s:ByteArray}{c:Nat}:∀(f a:Nat),s.size≤a+f→a≤s.size→a≤dY s c f a∧dY s c f a≤s.size∧(∀j,a≤j→j<dY s c f a→bAt s j≠c)∧(dY s c f a<s.size→bAt s (dY s c f a)=c)
 | 0,a,h,h2=>⟨Nat.le_refl _,h2,fun j h1 h3=>absurd h3 (by show ¬j<a;omega),fun h3=>absurd h3 (by show ¬a<s.size;omega)⟩
 | f+1,a,h,h2=>by
  unfold dY
  split
  ·rename_i h3
   obtain⟨g1,g2,g3,g4⟩:=iD (s:=s) (c:=c) f (a+1) omq omq
   refine⟨omq,g2,fun j h4 h5=>?_,g4⟩
   by_cases e:j=a
   ·rw [e];exact h3.2
   ·exact g3 j omq h5
  ·rename_i h3
   exact⟨Nat.le_refl _,h2,fun j h4 h5=>by omega,fun h4=>Classical.byContradiction fun h5=>h3 ⟨h4,h5⟩⟩
theorem xM {a b:Nat}(ha:a<256)(hb:b<256)(h:UInt8.ofNat a=UInt8.ofNat b):a=b:=by
 have:=congrArg UInt8.toNat h
 rw [UInt8.toNat_ofNat',UInt8.toNat_ofNat'] at this
 omega
theorem zr {s:ByteArray}{a c:Nat}(ha:a≤s.size)(hc:c<256):Lib.indexByte (eV s a s.size).data.toList (UInt8.ofNat c)=if dY s c s.size a<s.size then ((dY s c s.size a-a:Nat):Int) else -1:=by
 obtain⟨g1,g2,g3,g4⟩:=iD (s:=s) (c:=c) s.size a omq ha
 have hge:=Lib.indexByte_ge (eV s a s.size).data.toList (UInt8.ofNat c)
 rcases Int.lt_or_le (Lib.indexByte (eV s a s.size).data.toList (UInt8.ofNat c)) 0 with hn|hn
 ·have e:Lib.indexByte (eV s a s.size).data.toList (UInt8.ofNat c) = -1:=by omega
  rw [e]
  have h0:=Lib.indexByte_none e
  by_cases hu:dY s c s.size a<s.size
  ·exfalso
   have h1:=h0 (dY s c s.size a-a)
   rw [pu (Nat.le_refl _),if_pos omq,show a+(dY s c s.size a-a)=dY s c s.size a by omega,g4 hu] at h1
   exact h1 rfl
  ·rw [if_neg hu]
 ·obtain⟨o,ho⟩:∃o:Nat,Lib.indexByte (eV s a s.size).data.toList (UInt8.ofNat c)=(o:Int):=⟨_,(Int.toNat_of_nonneg hn).symm⟩
  obtain⟨h1,h2⟩:=Lib.indexByte_some ho
  rw [pu (Nat.le_refl _)] at h1
  by_cases hlt:a+o<s.size
  ·rw [if_pos hlt] at h1
   injection h1 with h1
   have h3:=xM (fu _ _) hc h1
   have h4:dY s c s.size a=a+o:=by
    rcases Nat.lt_trichotomy (dY s c s.size a) (a+o) with h|h|h
    ·exfalso
     have h5:=h2 (dY s c s.size a-a) omq
     rw [pu (Nat.le_refl _),if_pos omq,show a+(dY s c s.size a-a)=dY s c s.size a by omega,g4 omq] at h5
     exact h5 rfl
    ·exact h
    ·exact absurd h3 (g3 (a+o) omq h)
   rw [ho,h4,if_pos hlt,show a+o-a=o by omega]
  ·rw [if_neg hlt] at h1;cases h1
theorem xN {s:ByteArray}{alt:PS→E×PS}{a d:Nat}{b:Bool}{c:Nat}(hc:bAt s a=c):iV s alt ⟨a,d,b⟩=d7 s alt c ⟨a+1,d,b⟩:=by unfold iV;rw [hc];rfl
theorem zy3 {s:ByteArray}(hs:s.size≤1048576){alt:PS→E×PS}{p:PS}(hp:p.a<s.size)(hd:p.d≤p.a+1)(hg:Good s (p.go 1) (alt (p.go 1)) 0 0 1)
 (ha:Ctr prog 55 [.c (.pt 0 0)] [fb s (p.go 1)] (.ag (owE (alt (p.go 1)).1)) [fb s (alt (p.go 1)).2]) :
 Ctr prog 200 [.c (.pt 0 0)] [fb s p] (.ag (owE (iV s alt p).1)) [fb s (iV s alt p).2]:=by
 have hn:=lW hs (p:=p)
 have hn2:=lW hs (p:=p.go 1)
 obtain⟨a,d,b⟩:=p
 have hp:a<s.size:=hp
 have ha:Ctr prog 55 [.c (.pt 0 0)] [fb s ⟨a+1,d,b⟩] (.ag (owE (alt ⟨a+1,d,b⟩).1)) [fb s (alt ⟨a+1,d,b⟩).2]:=ha
 have hg:Good s ⟨a+1,d,b⟩ (alt ⟨a+1,d,b⟩) 0 0 1:=hg
 have hn:Ctr prog 111 [.c (.pt 0 0)] [fb s ⟨a,d,b⟩] (.c (.v (.int .u8 (bAt s a:Int)))) [fb s ⟨a,d,b⟩]:=hn
 have hn2:Ctr prog 111 [.c (.pt 0 0)] [fb s ⟨a+1,d,b⟩] (.c (.v (.int .u8 (bAt s (a+1):Int)))) [fb s ⟨a+1,d,b⟩]:=hn2
 obtain⟨c,hc⟩:∃c,bAt s a=c:=⟨_,rfl⟩
 have hcl:c<256:=hc▸fu s a
 rw [xN hc]
 rw [hc] at hn
 have hl:=kD hcl
 unfold fb at *
 dsimp only at hn hn2 ha ⊢
 refine av func200 rfl rfl ?_
 by_cases h1:lm c=true
 ·rw [h1] at hl
  have hr:d7 s alt c ⟨a+1,d,b⟩=(cU 1 (uN c) [],⟨a+1,d,b⟩):=if_pos h1
  have hc128:c<128:=by
   unfold lm at h1
   simp only [Bool.or_eq_true,Bool.and_eq_true,decide_eq_true_iff,beq_iff_eq] at h1
   omega
  rw [hr]
  repeat' (first|(apply ay;first|refine ao ?_|refine ak ?_|refine bd ?_|refine aL ?_|refine be 0 (hn) ?_|refine aI hl ?_|refine cG ?_|refine aD ?_|refine n_i32 ?_|refine zp3 ?_|refine dn ?_|refine aS ?_)|refine al ?_|refine ab ?_|refine aa fun C=>?_|refine ae ?_|refine ah ?_|(refine aj (by rfl) ?_ ?_<;>intro hC<;>(try cases hC)))
  refine bH (dZ 900 (i:=2) 39 3 rfl rfl (pre:=[_,_]) (post:=[]) rfl) ?_;refine am ?_;refine eo rfl (cq (bC rfl (bC rfl (bZ rfl rfl rfl cls0 bj)))) rfl (by first|rfl|(simp [bf,clo,ba,aH,bq,bp,aZ];done)) rfl ⟨?_,?_⟩
  ·rfl
  ·rfl
 have h1:lm c=false:=by simpa using h1
 rw [h1] at hl
 by_cases h2:c=46
 ·subst h2
  have hr:d7 s alt 46 ⟨a+1,d,b⟩=(cU 2 ByteArray.empty [],⟨a+1,d,b⟩):=rfl
  rw [hr]
  repeat' (first|(apply ay;first|refine ao ?_|refine ak ?_|refine bd ?_|refine aL ?_|refine be 0 (hn) ?_|refine aI hl ?_|refine cG ?_|refine bQ ?_|refine aD ?_|refine dn ?_|refine aS ?_)|refine al ?_|refine ab ?_|refine aa fun C=>?_|refine ae ?_|refine ah ?_|(refine aj (by rfl) ?_ ?_<;>intro hC<;>(try cases hC)))
  refine bH (dZ 900 (i:=2) 39 3 rfl rfl (pre:=[_,_]) (post:=[]) rfl) ?_;refine am ?_;refine eo rfl (cq (bC rfl (bC rfl (bZ rfl rfl rfl cls0 bj)))) rfl (by first|rfl|(simp [bf,clo,ba,aH,bq,bp,aZ];done)) rfl ⟨?_,?_⟩
  ·rfl
  ·rfl
 by_cases h3:c=94
 ·subst h3
  have hr:d7 s alt 94 ⟨a+1,d,b⟩=(cU 10 ByteArray.empty [],⟨a+1,d,b⟩):=rfl
  rw [hr]
  repeat' (first|(apply ay;first|refine ao ?_|refine ak ?_|refine bd ?_|refine aL ?_|refine be 0 (hn) ?_|refine aI hl ?_|refine cG ?_|refine bQ ?_|refine aD ?_|refine dn ?_|refine aS ?_)|refine al ?_|refine ab ?_|refine aa fun C=>?_|refine ae ?_|refine ah ?_|(refine aj (by rfl) ?_ ?_<;>intro hC<;>(try cases hC)))
  refine bH (dZ 900 (i:=2) 39 3 rfl rfl (pre:=[_,_]) (post:=[]) rfl) ?_;refine am ?_;refine eo rfl (cq (bC rfl (bC rfl (bZ rfl rfl rfl cls0 bj)))) rfl (by first|rfl|(simp [bf,clo,ba,aH,bq,bp,aZ];done)) rfl ⟨?_,?_⟩
  ·rfl
  ·rfl
 by_cases h4:c=36
 ·subst h4
  have hr:d7 s alt 36 ⟨a+1,d,b⟩=(cU 11 ByteArray.empty [],⟨a+1,d,b⟩):=rfl
  rw [hr]
  repeat' (first|(apply ay;first|refine ao ?_|refine ak ?_|refine bd ?_|refine aL ?_|refine be 0 (hn) ?_|refine aI hl ?_|refine cG ?_|refine bQ ?_|refine aD ?_|refine dn ?_|refine aS ?_)|refine al ?_|refine ab ?_|refine aa fun C=>?_|refine ae ?_|refine ah ?_|(refine aj (by rfl) ?_ ?_<;>intro hC<;>(try cases hC)))
  refine bH (dZ 900 (i:=2) 39 3 rfl rfl (pre:=[_,_]) (post:=[]) rfl) ?_;refine am ?_;refine eo rfl (cq (bC rfl (bC rfl (bZ rfl rfl rfl cls0 bj)))) rfl (by first|rfl|(simp [bf,clo,ba,aH,bq,bp,aZ];done)) rfl ⟨?_,?_⟩
  ·rfl
  ·rfl
 by_cases h5:c=91
 ·subst h5
  have hix:=zr (s:=s) (a:=a+1) (c:=93) omq omq
  have c3:=kB (eV s (a+1) s.size) (c:=93) omq
  obtain⟨g1,g2,g3,g4⟩:=iD (s:=s) (c:=93) s.size (a+1) omq omq
  rw [hix] at c3
  have hr:d7 s alt 91 ⟨a+1,d,b⟩=if dY s 93 s.size (a+1)<s.size then (cU 3 (eV s (a+1) (dY s 93 s.size (a+1))) [],⟨dY s 93 s.size (a+1)+1,d,b⟩) else (cV,⟨a+1,d,true⟩):=rfl
  rw [hr]
  clear hr hix
  generalize dY s 93 s.size (a+1)=u at *
  by_cases hu:u<s.size
  ·rw [if_pos hu] at c3
   rw [if_pos hu]
   have e0:(a:Int)+1=((a+1:Nat):Int):=by omega
   have e1:(a:Int)+1+((u-(a+1):Nat):Int)=(u:Int):=by omega
   repeat' (first|(apply ay;first|refine ao ?_|refine ak ?_|refine bd ?_|refine aL ?_|refine bu ?_|refine be 0 (hn) ?_|refine aI hl ?_|refine cG ?_|refine bQ ?_|refine aO ?_|refine aD ?_|refine dn ?_|refine aS ?_)|refine al ?_|refine ab ?_|(apply fH;first|(apply gg;refine bg ?_)|(apply d_as;refine bg ?_)|refine gX ?_|refine dJ ?_|refine fO c3 ?_|refine o_st ?_|refine nN ?_|refine o_al ?_|refine o_ssl ?_|refine o_ssf ?_|refine bg ?_)|refine al ?_|refine ab ?_|refine aa fun C=>?_|refine ar (by kernel_rfl) (by kernel_rfl) fun C=>?_|refine ae ?_|refine ah ?_|refine ai ?_|refine az rfl ?_|refine aE rfl ?_)
   refine bH (dZ 900 (i:=2) 39 3 rfl rfl (pre:=[_,_]) (post:=[]) rfl) ?_;refine am ?_;refine eo rfl (cq (bC rfl (bC rfl (bZ rfl rfl rfl cls0 bj)))) rfl (by first|rfl|(simp [bf,clo,ba,aH,bq,bp,aZ];done)) rfl ⟨?_,?_⟩
   ·rfl
   ·rw [show ((u+1:Nat):Int)=(a:Int)+1+(((u-(a+1):Nat):Int)+1) by omega];rfl
  ·rw [if_neg hu] at c3
   rw [if_neg hu]
   repeat' (first|(apply ay;first|refine ao ?_|refine ak ?_|refine bd ?_|refine aL ?_|refine be 0 (hn) ?_|refine aI hl ?_|refine cG ?_|refine bQ ?_|refine aO ?_|refine aD ?_|refine dn ?_|refine aS ?_)|refine al ?_|refine ab ?_|(apply fH;first|(apply gg;refine bg ?_)|(apply d_as;refine bg ?_)|refine gX ?_|refine dJ ?_|refine fO c3 ?_|refine o_ssf ?_|refine bg ?_)|refine al ?_|refine ab ?_|refine aa fun C=>?_|refine ar (by kernel_rfl) (by kernel_rfl) fun C=>?_|refine ae ?_|refine ah ?_|refine au ?_|(refine aj (by rfl) ?_ ?_<;>intro hC<;>(try cases hC)))
   refine bH (dZ 900 (i:=2) 39 3 rfl rfl (pre:=[_,_]) (post:=[]) rfl) ?_;refine am ?_;refine eo rfl (cq (bC rfl (bC rfl (bZ rfl rfl rfl cls0 bj)))) rfl (by first|rfl|(simp [bf,clo,ba,aH,bq,bp,aZ];done)) rfl ⟨?_,?_⟩
   ·rfl
   ·rfl
 by_cases h6:c=40
 ·subst h6
  by_cases h41:bAt s (a+1)=41
  ·have hr:d7 s alt 40 ⟨a+1,d,b⟩=(cU 9 ByteArray.empty [],⟨a+2,d,b⟩):=by
    rw [iY,if_pos h41];rfl
   rw [hr]
   rw [h41] at hn2
   repeat' (first|(apply ay;first|(refine aU ?_ ?_<;>intro hG<;>(try cases hG))|refine ao ?_|refine ak ?_|refine bd ?_|refine aL ?_|refine be 0 (hn) ?_|refine be 0 (hn2) ?_|refine aI hl ?_|refine cG ?_|refine bQ ?_|refine aD ?_|refine aF ?_|refine dn ?_|refine aS ?_)|refine al ?_|refine ab ?_|refine aa fun C=>?_|refine ae ?_|refine ah ?_|(refine aj (by rfl) ?_ ?_<;>intro hC<;>(try cases hC)))
   refine bH (dZ 900 (i:=2) 39 3 rfl rfl (pre:=[_,_]) (post:=[]) rfl) ?_;refine am ?_;refine eo rfl (cq (bC rfl (bC rfl (bZ rfl rfl rfl cls0 bj)))) rfl (by first|rfl|(simp [bf,clo,ba,aH,bq,bp,aZ];done)) rfl ⟨?_,?_⟩
   ·rfl
   ·rfl
  ·have hr:d7 s alt 40 ⟨a+1,d,b⟩=if bAt s (alt ⟨a+1,d,b⟩).2.a=41 then ((alt ⟨a+1,d,b⟩).1,(alt ⟨a+1,d,b⟩).2.go 1) else (cV,(alt ⟨a+1,d,b⟩).2.bad):=by
    rw [iY,if_neg h41]
   rw [hr]
   clear hr
   obtain⟨⟨e,q⟩,hq⟩:∃r,alt ⟨a+1,d,b⟩=r:=⟨_,rfl⟩
   rw [hq] at ha hg ⊢
   have hn3:=lW hs (p:=q)
   unfold fb at hn3
   have hle:q.a≤s.size:=hg.le
   have hqd:q.d=d:=hg.d
   obtain⟨qa,qd,qb⟩:=q
   dsimp only at ha hn3 hle hqd ⊢
   have hfi:Fine e:=hg.fine
   cases hfi with
   | mk k t l hk ht hl2 =>
   by_cases h7:bAt s qa=41
   ·rw [if_pos h7]
    rw [h7] at hn3
    have hlt:qa<s.size:=da (by rw [h7];decide)
    repeat' (first|(apply ay;first|(refine aU ?_ ?_<;>intro hG<;>(try cases hG))|refine ao ?_|refine ak ?_|refine bd ?_|refine aL ?_|refine be 0 (hn) ?_|refine be 0 (hn2) ?_|refine aI hl ?_|refine cG ?_|refine bQ ?_|refine aD ?_|refine aF ?_|refine dn ?_|refine aS ?_)|refine al ?_|refine ab ?_|refine aa fun C=>?_|refine ae ?_|refine ah ?_|refine aE rfl ?_)
    refine aj (by rfl) (fun hC=>absurd (eq_of_beq hC) omq) fun hC=>?_
    repeat' (first|(apply ay;first|refine ao ?_|refine ak ?_|refine bd ?_|refine aL ?_|refine bu ?_|refine be 0 (ha) ?_|refine be 0 (hn3) ?_|refine cG ?_|refine bQ ?_|refine e8 ?_|refine aD ?_|refine dn ?_|refine aS ?_)|refine al ?_|refine ab ?_|refine aa fun C=>?_|refine ae ?_|refine ai ?_|refine az rfl ?_|refine aE rfl ?_)
    refine am ?_;refine eo rfl (cq (bC rfl (bC rfl (bZ rfl rfl rfl cls0 bj)))) rfl (by first|rfl|(simp [bf,clo,ba,aH,bq,bp,aZ];done)) rfl ⟨?_,?_⟩
    ·rfl
    ·rfl
   ·rw [if_neg h7]
    repeat' (first|(apply ay;first|(refine aU ?_ ?_<;>intro hG<;>(try cases hG))|refine ao ?_|refine ak ?_|refine bd ?_|refine aL ?_|refine be 0 (hn) ?_|refine be 0 (hn2) ?_|refine aI hl ?_|refine cG ?_|refine bQ ?_|refine aD ?_|refine aF ?_|refine dn ?_|refine aS ?_)|refine al ?_|refine ab ?_|refine aa fun C=>?_|refine ae ?_|refine ah ?_|refine aE rfl ?_)
    refine aj (by rfl) (fun hC=>absurd (eq_of_beq hC) omq) fun hC=>?_
    repeat' (first|(apply ay;first|refine ao ?_|refine ak ?_|refine be 0 (ha) ?_|refine be 0 (hn3) ?_|refine cG ?_|refine bQ ?_|refine e8 ?_|refine dn ?_)|refine al ?_|refine ab ?_|refine aa fun C=>?_|refine ae ?_|refine az rfl ?_)
    refine aj (by rfl) (fun hC=>?_) fun hC=>absurd (bne_eq_false_iff_eq.1 hC) omq
    repeat' (first|(apply ay;first|refine ao ?_|refine bd ?_|refine cG ?_|refine aS ?_)|refine al ?_|refine ab ?_|refine aa fun C=>?_|refine ae ?_|refine au ?_)
    refine bH (dZ 900 (i:=2) 39 3 rfl rfl (pre:=[_,_]) (post:=[]) rfl) ?_;refine am ?_;refine eo rfl (cq (bC rfl (bC rfl (bZ rfl rfl rfl cls0 bj)))) rfl (by first|rfl|(simp [bf,clo,ba,aH,bq,bp,aZ];done)) rfl ⟨?_,?_⟩
    ·rfl
    ·rfl
 have hr:d7 s alt c ⟨a+1,d,b⟩=(cV,⟨a+1,d,true⟩):=by
  unfold d7
  rw [if_neg (by rw [h1];simp),if_neg h2,if_neg h3,if_neg h4,if_neg h5,if_neg h6];rfl
 rw [hr]
 repeat' (first|(apply ay;first|refine ao ?_|refine ak ?_|refine bd ?_|refine aL ?_|refine be 0 (hn) ?_|refine aI hl ?_|refine cG ?_|refine aD ?_|refine dn ?_|refine aS ?_)|refine al ?_|refine ab ?_|refine aa fun C=>?_|refine ae ?_|refine ah ?_)
 iterate 5
  (first
    | refine aj (by rfl) (fun hC=>Bool.noConfusion (show false=true from hC)) fun hC=>?_
    | refine aj (by rfl) (fun hC=>absurd (eq_of_beq hC) omq) fun hC=>?_
    | skip)<;>repeat' (first|(apply ay;first|refine bO ?_|(refine aU ?_ ?_<;>intro hG<;>(try cases hG))|refine ao ?_|refine ak ?_|refine bQ ?_|refine aF ?_)|refine al ?_|refine ab ?_|refine aa fun C=>?_|refine ae ?_)
 ·exact absurd (eq_of_beq hG) omq
 iterate 2
  (first
    | refine aj (by rfl) (fun hC=>Bool.noConfusion (show false=true from hC)) fun hC=>?_
    | refine aj (by rfl) (fun hC=>absurd (eq_of_beq hC) omq) fun hC=>?_
    | skip)<;>repeat' (first|(apply ay;first|refine ao ?_|refine ak ?_|refine bd ?_|refine cG ?_|refine bQ ?_|refine aS ?_)|refine al ?_|refine ab ?_|refine aa fun C=>?_|refine ae ?_|refine ai ?_)
 refine bH (dZ 900 (i:=2) 39 3 rfl rfl (pre:=[_,_]) (post:=[]) rfl) ?_;refine am ?_;refine eo rfl (cq (bC rfl (bC rfl (bZ rfl rfl rfl cls0 bj)))) rfl (by first|rfl|(simp [bf,clo,ba,aH,bq,bp,aZ];done)) rfl ⟨?_,?_⟩
 ·rfl
 ·rfl
structure GoodS (s:ByteArray)(p:PS)(r:E×PS):Prop where
 fine:Fine r.1
 ge:p.a≤r.2.a
 le:r.2.a≤s.size
 dg:p.d≤r.2.d
 dl:r.2.d≤9
 nb:r.2.b=false→p.b=false∧r.2.d=p.d
def Pre (s:ByteArray)(p:PS):Prop:=p.a≤s.size∧p.d≤9∧(p.b=false→p.d≤8)
section
variable {s:ByteArray}(hs:s.size≤1048576)
theorem ju {c:Nat}{p:PS}(h:isB s c p=true):p.b=false∧p.a<s.size∧bAt s p.a=c:=by
 unfold isB at h
 simp only [Bool.and_eq_true,Bool.not_eq_true',decide_eq_true_iff,beq_iff_eq] at h
 exact⟨h.1.1,h.1.2,h.2⟩
theorem GoodS.bad {p q:PS}(hp:Pre s p)(h1:p.a≤q.a)(h2:q.a≤s.size)(h3:p.d≤q.d)(h4:q.d≤9):GoodS s p (cV,q.bad):=⟨Fine.zero,h1,h2,h3,h4,fun h=>by cases h⟩
theorem kF {alt:PS→E×PS}{q:PS}(hq:Pre s q)(hb:q.b=false)(ha:q.d≤7→GoodS s ⟨q.a,q.d+1,q.b⟩ (alt ⟨q.a,q.d+1,q.b⟩)):GoodS s q (dD s alt q):=by
 obtain⟨h1,h2,h3⟩:=hq
 have h3:=h3 hb
 unfold dD
 split
 ·rename_i h
  obtain⟨i1,i2,i3⟩:=ju h
  exact⟨Fine.leaf omq (by show (0:Nat)≤_;omega),by show q.a≤q.a+1;omega,by show q.a+1≤_;omega,Nat.le_refl _,h2,fun _=>⟨hb,rfl⟩⟩
 split
 ·exact⟨Fine.zero,Nat.le_refl _,h1,by show q.d≤q.d+1;omega,by show q.d+1≤9;omega,fun h=>by cases h⟩
 ·obtain⟨g1,g2,g3,g4,g5,g6⟩:=ha omq
  dsimp only at g2 g4 ⊢
  split
  ·rename_i h
   obtain⟨i1,i2,i3⟩:=ju h
   dsimp only at i1 i2
   obtain⟨j1,j2⟩:=g6 i1
   exact⟨g1,by show q.a≤(alt ⟨q.a,q.d+1,q.b⟩).2.a+1;omega,by show (alt ⟨q.a,q.d+1,q.b⟩).2.a+1≤_;omega,by show q.d≤(alt ⟨q.a,q.d+1,q.b⟩).2.d-1;omega,by show (alt ⟨q.a,q.d+1,q.b⟩).2.d-1≤9;omega,fun _=>⟨hb,by show (alt ⟨q.a,q.d+1,q.b⟩).2.d-1=q.d;dsimp only at j2;omega⟩⟩
  ·exact⟨Fine.zero,g2,g3,by show q.d≤(alt ⟨q.a,q.d+1,q.b⟩).2.d-1;omega,by show (alt ⟨q.a,q.d+1,q.b⟩).2.d-1≤9;omega,fun h=>by cases h⟩
include hs
theorem lX {alt:PS→E×PS}{p:PS}(hp:Pre s p)(ha:p.b=false→p.a<s.size→p.d≤7→GoodS s ⟨p.a+1,p.d+1,p.b⟩ (alt ⟨p.a+1,p.d+1,p.b⟩)):GoodS s p (dh s alt p)∧((dh s alt p).2.b=false→p.a<(dh s alt p).2.a):=by
 obtain⟨h1,h2,h3⟩:=hp
 unfold dh
 split
 ·exact⟨GoodS.bad ⟨h1,h2,h3⟩ (Nat.le_refl _) h1 (Nat.le_refl _) h2,fun h=>by cases h⟩
 ·rename_i hn
  simp only [not_or,Bool.not_eq_true,Nat.not_le] at hn
  obtain⟨hb,hlt⟩:=hn
  have up:∀r:E×PS,GoodS s (p.go 1) r→GoodS s p r∧(r.2.b=false→p.a<r.2.a):=fun r g =>
   ⟨⟨g.fine,by have:=g.ge;have e:(p.go 1).a=p.a+1:=rfl;omega,g.le,g.dg,g.dl,g.nb⟩,fun _=>by have:=g.ge;have e:(p.go 1).a=p.a+1:=rfl;omega⟩
  have hq:Pre s (p.go 1):=⟨by show p.a+1≤_;omega,h2,h3⟩
  apply up
  have leaf:∀(k:Int) (t:ByteArray),0≤k∧k≤11→t.size≤1→GoodS s (p.go 1) (cU k t [],p.go 1):=fun k t hk ht=>⟨Fine.leaf hk omq,Nat.le_refl _,hq.1,Nat.le_refl _,hq.2.1,fun h=>⟨h,rfl⟩⟩
  have e0:ByteArray.empty.size=0:=rfl
  unfold d8
  split
  ·exact leaf 2 _ omq omq
  split
  ·exact leaf 10 _ omq omq
  split
  ·exact leaf 11 _ omq omq
  split
  ·exact kF hq hb fun h=>ha hb hlt h
  split
  ·exact leaf 1 _ omq (by show (1:Nat)≤1;omega)
  split
  ·exact GoodS.bad hq (Nat.le_refl _) hq.1 (Nat.le_refl _) hq.2.1
  ·obtain⟨u1,u2⟩:=pn (s:=s) (c:=93) s.size (p.go 1).a hq.1
   dsimp only
   split
   ·rename_i h
    obtain⟨i1,i2,i3⟩:=ju h
    dsimp only at i2
    refine⟨Fine.leaf omq (by show (eV _ _ _).size≤_;unfold eV;rw [ByteArray.size_extract];omega),?_,?_,Nat.le_refl _,hq.2.1,fun h=>⟨h,rfl⟩⟩
    ·show (p.go 1).a≤dY s 93 s.size (p.go 1).a+1;omega
    ·show dY s 93 s.size (p.go 1).a+1≤_;omega
   ·exact GoodS.bad hq u1 u2 (Nat.le_refl _) hq.2.1
omit hs in
theorem i7 {atom:PS→E×PS}{p:PS}(ha:GoodS s p (atom p)∧((atom p).2.b=false→p.a<(atom p).2.a)):GoodS s p (ee s atom p)∧((ee s atom p).2.b=false→p.a<(ee s atom p).2.a):=by
 obtain⟨⟨g1,g2,g3,g4,g5,g6⟩,g7⟩:=ha
 have star:∀k:Int,0≤k∧k≤11→(atom p).2.a<s.size→GoodS s p (cU k ByteArray.empty [(atom p).1],(atom p).2.go 1)∧(((atom p).2.go 1).b=false→p.a<((atom p).2.go 1).a):=fun k hk hl =>
  ⟨⟨.mk k _ _ hk (by show (0:Nat)≤_;omega) (fun x hx=>by obtain rfl:=List.mem_singleton.1 hx;exact g1),by show p.a≤(atom p).2.a+1;omega,by show (atom p).2.a+1≤_;omega,g4,g5,g6⟩,fun _=>by show p.a<(atom p).2.a+1;omega⟩
 unfold ee
 dsimp only
 split
 ·rename_i h;exact star 6 omq (ju h).2.1
 split
 ·rename_i h;exact star 7 omq (ju h).2.1
 split
 ·rename_i h;exact star 8 omq (ju h).2.1
 ·exact⟨⟨g1,g2,g3,g4,g5,g6⟩,g7⟩
omit hs in
structure GoodLS (s:ByteArray)(p0:PS)(l:List E)(q:PS):Prop where
 fine:∀x∈l,Fine x
 ge:p0.a≤q.a
 le:q.a≤s.size
 dg:p0.d≤q.d
 dl:q.d≤9
 nb:q.b=false→p0.b=false∧q.d=p0.d
 len:l.length+p0.a≤q.a+2∧(q.b=false→l.length+p0.a≤q.a+1)
 ne:0<l.length
omit hs in
theorem zrQ {p:PS}(h:goS s p=true):p.b=false∧p.a<s.size∧bAt s p.a≠124∧bAt s p.a≠41:=by
 unfold goS at h
 simp only [Bool.and_eq_true,Bool.not_eq_true',decide_eq_true_iff,beq_eq_false_iff_ne] at h
 exact⟨h.1.1.1,h.1.1.2,h.1.2,h.2⟩
omit hs in
theorem GoodLS.pre {p0 q:PS}{l:List E}(h:GoodLS s p0 l q)(hp:Pre s p0):Pre s q:=⟨h.le,h.dl,fun hb=>by obtain⟨h1,h2⟩:=h.nb hb;have:=hp.2.2 h1;omega⟩
omit hs in
theorem GoodLS.step {p0 q:PS}{l:List E}{r:E×PS}(h:GoodLS s p0 l q)(hb:q.b=false)(hr:GoodS s q r∧(r.2.b=false→q.a<r.2.a)):GoodLS s p0 (l++[r.1]) r.2:=by
 obtain⟨k1,k2,k3,k4,k5,k6,k7,k8⟩:=h
 obtain⟨⟨g1,g2,g3,g4,g5,g6⟩,g7⟩:=hr
 have k7:=k7.2 hb
 refine⟨fun x hx=>?_,omq,g3,omq,g5,fun h=>?_,⟨?_,fun h=>?_⟩,?_⟩
 ·rcases List.mem_append.1 hx with hx|hx
  ·exact k1 x hx
  ·obtain rfl:=List.mem_singleton.1 hx;exact g1
 ·exact⟨(k6 hb).1,by have:=(g6 h).2;have:=(k6 hb).2;omega⟩
 ·rw [List.length_append,List.length_singleton];omega
 ·have:=g7 h;rw [List.length_append,List.length_singleton];omega
 ·rw [List.length_append,List.length_singleton];omega
omit hs in
theorem GoodLS.one {p0:PS}{r:E×PS}(hr:GoodS s p0 r):GoodLS s p0 [r.1] r.2:=by
 obtain⟨g1,g2,g3,g4,g5,g6⟩:=hr
 exact⟨fun x hx=>by obtain rfl:=List.mem_singleton.1 hx;exact g1,g2,g3,g4,g5,g6,⟨by rw [List.length_singleton];omega,fun _=>by rw [List.length_singleton];omega⟩,by simp⟩
omit hs in
theorem iE {item:PS→E×PS}{p0:PS}(hp0:Pre s p0)(hi:∀p,Pre s p→p0.a≤p.a→p.d≤p0.d∨p.b=true→GoodS s p (item p)∧((item p).2.b=false→p.a<(item p).2.a)):∀(n:Nat) (l:List E) (p:PS),GoodLS s p0 l p→GoodLS s p0 (bY s item n l p).1 (bY s item n l p).2
 | 0,l,p,h=>h
 | n+1,l,p,h=>by
  unfold bY
  split
  ·rename_i hg
   obtain⟨hb,hlt,-⟩:=zrQ hg
   exact iE hp0 hi n _ _ (h.step hb (hi p (h.pre hp0) h.ge (.inl (by have:=(h.nb hb).2;omega))))
  ·exact h
omit hs in
theorem GoodLS.fin {p0 q:PS}{l:List E}{k:Int}(hk:0≤k∧k≤11)(h:GoodLS s p0 l q):GoodS s p0 (jB k l,q):=⟨(i6 hk h.fine).1,h.ge,h.le,h.dg,h.dl,h.nb⟩
omit hs in
theorem n7 {item:PS→E×PS}{p:PS}(hp:Pre s p)(hi:∀q,Pre s q→p.a≤q.a→GoodS s q (item q)∧((item q).2.b=false→q.a<(item q).2.a)):GoodS s p (oR s item p) :=
 (iE hp (fun q h1 h2 _=>hi q h1 h2) (s.size+1) _ _ (GoodLS.one (hi p hp (Nat.le_refl _)).1)).fin omq
omit hs in
theorem iF {cat:PS→E×PS}{p0:PS}(hp0:Pre s p0)(hc:∀q,Pre s q→p0.a≤q.a→GoodS s q (cat q)):∀(n:Nat) (l:List E) (p:PS),GoodLS s p0 l p→GoodLS s p0 (b9 s cat n l p).1 (b9 s cat n l p).2
 | 0,l,p,h=>h
 | n+1,l,p,h=>by
  unfold b9
  split
  ·rename_i hg
   obtain⟨hb,hlt,-⟩:=ju hg
   have hpre:=h.pre hp0
   have e1:(p.go 1).a=p.a+1:=rfl
   have hge:=h.ge
   have hgd:=hc (p.go 1) ⟨omq,hpre.2.1,hpre.2.2⟩ omq
   refine iF hp0 hc n _ _ (h.step hb ⟨⟨hgd.fine,by have:=hgd.ge;omega,hgd.le,hgd.dg,hgd.dl,hgd.nb⟩,fun _=>by have:=hgd.ge;omega⟩)
  ·exact h
omit hs in
theorem ve {cat:PS→E×PS}{p:PS}(hp:Pre s p)(hc:∀q,Pre s q→p.a≤q.a→GoodS s q (cat q)):GoodS s p (xw s cat p) :=
 (iF hp hc (s.size+1) _ _ (GoodLS.one (hc p hp (Nat.le_refl _)))).fin omq
theorem n8 (f:Nat):∀p:PS,Pre s p→s.size+1≤p.a+f→GoodS s p (gP s f p):=by
 induction f with
 | zero=>intro p h1 h2;have:=h1.1;omega
 | succ f ih =>
  intro p h1 h2
  exact ve h1 fun q hq hqa=>n7 hq fun r hr hra=>i7 (lX hs hr fun hb hlt hd=>ih _ ⟨by show r.a+1≤_;omega,by show r.d+1≤9;omega,fun _=>by show r.d+1≤8;omega⟩ (by show s.size+1≤r.a+1+f;omega))
end
end Go.Proofs.YtmnneflenebgmaaGreat
