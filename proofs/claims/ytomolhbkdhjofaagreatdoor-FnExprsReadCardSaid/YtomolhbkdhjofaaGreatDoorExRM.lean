/- T -/
import Derived.Shelf.LaysC
import Derived.Shelf.Strconv.AtoiAll
import Derived.Shelf.Strings.Prefix
import Derived.Stop.IfaceNil
import Derived.Test.YtomolhbkdhjofaaGreatDoorExRL
set_option maxHeartbeats 0
set_option maxRecDepth 100000
namespace Go.Proofs.YtomolhbkdhjofaaGreatDoor
open Go.RowKit Go.Shelf Go.Proofs.Tryz
def pp:Go.Shelf.Ren:=⟨fun|172=>64|244=>99|245=>100|247=>125|279=>126|280=>127|281=>128|282=>129|287=>139|316=>140|171=>65|205=>141|321=>156|322=>157|243=>101|246=>130|283=>142|284=>143|285=>144|286=>145|129=>159|317=>158|318=>160|319=>161|320=>162|337=>175|338=>176|n=>n,fun|9=>9|3=>3|75=>83|76=>84|4=>4|5=>5|167=>123|37=>22|0=>0|85=>124|2=>2|168=>126|53=>141|175=>142|46=>104|210=>145|127=>130|145=>162|143=>160|21=>21|171=>147|173=>150|212=>165|51=>166|20=>20|213=>167|232=>175|233=>176|80=>109|n=>n,fun|15=>1|16=>2|17=>3|18=>4|19=>5|n=>n⟩
theorem su:Go.Proofs.LaysC.n172 prog pp:={
 mixed:=by kernel_rfl
 f129:=func159.trans (congrArg some krq)
 f171:=func65.trans (congrArg some krq)
 f172:=func64.trans (congrArg some krq)
 f205:=func141.trans (congrArg some krq)
 f243:=func101.trans (congrArg some krq)
 f244:=func99.trans (congrArg some krq)
 f245:=func100.trans (congrArg some krq)
 f246:=func130.trans (congrArg some krq)
 f247:=func125.trans (congrArg some krq)
 f279:=func126.trans (congrArg some krq)
 f280:=func127.trans (congrArg some krq)
 f281:=func128.trans (congrArg some krq)
 f282:=func129.trans (congrArg some krq)
 f283:=func142.trans (congrArg some krq)
 f284:=func143.trans (congrArg some krq)
 f285:=func144.trans (congrArg some krq)
 f286:=func145.trans (congrArg some krq)
 f287:=func139.trans (congrArg some krq)
 f316:=func140.trans (congrArg some krq)
 f317:=func158.trans (congrArg some krq)
 f318:=func160.trans (congrArg some krq)
 f319:=func161.trans (congrArg some krq)
 f320:=func162.trans (congrArg some krq)
 f321:=func156.trans (congrArg some krq)
 f322:=func157.trans (congrArg some krq)
 f337:=func175.trans (congrArg some krq)
 f338:=func176.trans (congrArg some krq)
 t0:=underlying0
 a0:=Tryz.isAgg0
 z0:=Tryz.sizeOf0
 v0:=Tryz.zeroValue0
 t2:=underlying2
 a2:=Tryz.isAgg2
 z2:=Tryz.sizeOf2
 v2:=Tryz.zeroValue2
 t3:=underlying3
 a3:=Tryz.isAgg3
 z3:=Tryz.sizeOf3
 v3:=Tryz.zeroValue3
 t4:=underlying4
 a4:=Tryz.isAgg4
 z4:=Tryz.sizeOf4
 v4:=Tryz.zeroValue4
 t5:=underlying5
 a5:=Tryz.isAgg5
 z5:=Tryz.sizeOf5
 v5:=Tryz.zeroValue5
 t9:=underlying9
 a9:=Tryz.isAgg9
 z9:=Tryz.sizeOf9
 v9:=Tryz.zeroValue9
 t20:=underlying20
 a20:=Tryz.isAgg20
 z20:=Tryz.sizeOf20
 v20:=Tryz.zeroValue20
 t21:=underlying21
 a21:=Tryz.isAgg21
 z21:=Tryz.sizeOf21
 v21:=Tryz.zeroValue21
 t37:=underlying22
 a37:=Tryz.isAgg22
 z37:=Tryz.sizeOf22
 v37:=Tryz.zeroValue22
 t46:=underlying104
 a46:=Tryz.isAgg104
 z46:=Tryz.sizeOf104
 v46:=Tryz.zeroValue104
 t51:=underlying166
 a51:=Tryz.isAgg166
 z51:=Tryz.sizeOf166
 v51:=Tryz.zeroValue166
 t53:=underlying141
 a53:=Tryz.isAgg141
 z53:=Tryz.sizeOf141
 v53:=Tryz.zeroValue141
 t75:=underlying83
 a75:=Tryz.isAgg83
 z75:=Tryz.sizeOf83
 v75:=Tryz.zeroValue83
 t76:=underlying84
 a76:=Tryz.isAgg84
 z76:=Tryz.sizeOf84
 v76:=Tryz.zeroValue84
 t85:=underlying124
 a85:=Tryz.isAgg124
 z85:=Tryz.sizeOf124
 v85:=Tryz.zeroValue124
 t127:=underlying130
 a127:=Tryz.isAgg130
 z127:=Tryz.sizeOf130
 v127:=Tryz.zeroValue130
 t143:=underlying160
 a143:=Tryz.isAgg160
 z143:=Tryz.sizeOf160
 v143:=Tryz.zeroValue160
 t145:=underlying162
 a145:=Tryz.isAgg162
 z145:=Tryz.sizeOf162
 v145:=Tryz.zeroValue162
 t167:=underlying123
 a167:=Tryz.isAgg123
 z167:=Tryz.sizeOf123
 v167:=Tryz.zeroValue123
 t168:=underlying126
 a168:=Tryz.isAgg126
 z168:=Tryz.sizeOf126
 v168:=Tryz.zeroValue126
 t171:=underlying147
 a171:=Tryz.isAgg147
 z171:=Tryz.sizeOf147
 v171:=Tryz.zeroValue147
 t173:=underlying150
 a173:=Tryz.isAgg150
 z173:=Tryz.sizeOf150
 v173:=Tryz.zeroValue150
 t175:=underlying142
 a175:=Tryz.isAgg142
 z175:=Tryz.sizeOf142
 v175:=Tryz.zeroValue142
 t210:=underlying145
 a210:=Tryz.isAgg145
 z210:=Tryz.sizeOf145
 v210:=Tryz.zeroValue145
 t212:=underlying165
 a212:=Tryz.isAgg165
 z212:=Tryz.sizeOf165
 v212:=Tryz.zeroValue165
 t213:=underlying167
 a213:=Tryz.isAgg167
 z213:=Tryz.sizeOf167
 t232:=underlying175
 a232:=Tryz.isAgg175
 z232:=Tryz.sizeOf175
 v232:=Tryz.zeroValue175
 t233:=underlying176
 a233:=Tryz.isAgg176
 z233:=Tryz.sizeOf176
 v233:=Tryz.zeroValue176
 g15:=by kernel_rfl
 g16:=by kernel_rfl
 g17:=by kernel_rfl
 g18:=by kernel_rfl
 g19:=by kernel_rfl
 t80:=underlying109
 a80:=Tryz.isAgg109
 z80:=Tryz.sizeOf109
 v80:=Tryz.zeroValue109
 i0:=by kernel_rfl
 i2:=by kernel_rfl
 i3:=by kernel_rfl
 i4:=by kernel_rfl
 i5:=by kernel_rfl
 i9:=by kernel_rfl
 i20:=by kernel_rfl
 i21:=by kernel_rfl
 i37:=by kernel_rfl
 i46:=by kernel_rfl
 i51:=by kernel_rfl
 i53:=by kernel_rfl
 i75:=by kernel_rfl
 i76:=by kernel_rfl
 i80:=by kernel_rfl
 i85:=by kernel_rfl
 i127:=by kernel_rfl
 i143:=by kernel_rfl
 i145:=by kernel_rfl
 i167:=by kernel_rfl
 i168:=by kernel_rfl
 i171:=by kernel_rfl
 i173:=by kernel_rfl
 i175:=by kernel_rfl
 i210:=by kernel_rfl
 i212:=by kernel_rfl
 i232:=by kernel_rfl
 i233:=by kernel_rfl
 m15:=by kernel_rfl
 m16:=by kernel_rfl
 m17:=by kernel_rfl
 m18:=by kernel_rfl
 m19:=by kernel_rfl
 c0:=by kernel_rfl
 c2:=by kernel_rfl
 c3:=by kernel_rfl
 c4:=by kernel_rfl
 c5:=by kernel_rfl
 c9:=by kernel_rfl
 c20:=by kernel_rfl
 c21:=by kernel_rfl
 c37:=by kernel_rfl
 c46:=by kernel_rfl
 c51:=by kernel_rfl
 c53:=by kernel_rfl
 c75:=by kernel_rfl
 c76:=by kernel_rfl
 c80:=by kernel_rfl
 c85:=by kernel_rfl
 c127:=by kernel_rfl
 c143:=by kernel_rfl
 c145:=by kernel_rfl
 c167:=by kernel_rfl
 c168:=by kernel_rfl
 c171:=by kernel_rfl
 c173:=by kernel_rfl
 c175:=by kernel_rfl
 c210:=by kernel_rfl
 c212:=by kernel_rfl
 c213:=by kernel_rfl
 c232:=by kernel_rfl
 c233:=by kernel_rfl }
end Go.Proofs.YtomolhbkdhjofaaGreatDoor
namespace Go.Proofs.YtomolhbkdhjofaaGreatDoor
open Go.RowKit Go.Shelf Go.Proofs.Tryz
def uh:Go.Shelf.Ren:=⟨fun|99=>102|206=>131|n=>n,fun|9=>9|4=>4|3=>3|n=>n,fun|n=>n⟩
theorem zt7:Go.Proofs.Lays.n99 prog uh:={
 mixed:=by kernel_rfl
 f99:=func102.trans (congrArg some krq)
 f206:=func131.trans (congrArg some krq)
 t3:=underlying3
 a3:=Tryz.isAgg3
 z3:=Tryz.sizeOf3
 v3:=Tryz.zeroValue3
 t4:=underlying4
 a4:=Tryz.isAgg4
 z4:=Tryz.sizeOf4
 v4:=Tryz.zeroValue4
 t9:=underlying9
 a9:=Tryz.isAgg9
 z9:=Tryz.sizeOf9
 v9:=Tryz.zeroValue9 }
end Go.Proofs.YtomolhbkdhjofaaGreatDoor
namespace Go.Proofs.YtomolhbkdhjofaaGreatDoor
open Go.RowKit Go.Proofs.Tryz
theorem wo:∀(l:List UInt8) (acc:Nat),acc≤jY acc l
 | [],acc=>nlr _
 | c :: r,acc=>by
  have:=wo r (acc*10+(c.toNat-48))
  unfold jY
  omega
def digL (l:List UInt8):Prop:=∀c∈l,48≤c.toNat∧c.toNat≤57
theorem pq:∀(l:List UInt8) (acc:Nat),digL l→acc<18446744073709551616→Lib.parseUint10 acc l=if jY acc l<18446744073709551616 then .ok (jY acc l) else .range
 | [],acc,_,h=>by
  unfold Lib.parseUint10 jY
  rw [if_pos h]
 | c :: r,acc,hd,h=>by
  have h1:=hd c mcs
  have h2:digL r:=fun x hx=>hd x (mco _ hx)
  have h3:=wo r (acc*10+(c.toNat-48))
  unfold Lib.parseUint10 jY
  rw [if_pos h1]
  by_cases h4:1844674407370955162≤acc
  ·rw [if_pos h4,if_neg omq]
  ·rw [if_neg h4]
   by_cases h5:18446744073709551616≤acc*10+(c.toNat-48)
   ·rw [if_pos h5,if_neg omq]
   ·rw [if_neg h5]
    exact pq r _ h2 omq
theorem sv {l:List UInt8}(hne:l≠[])(hd:digL l):Lib.atoiAll l=if jY 0 l<9223372036854775808 then .ok (jY 0 l:Int) else .range:=by
 cases l with
 | nil=>exact absurd rfl hne
 | cons c r =>
  have h1:=hd c mcs
  unfold Lib.atoiAll
  dsimp only
  rw [if_neg (show ¬(c.toNat=43∨c.toNat=45) by omega)]
  unfold Lib.parseMag
  rw [if_neg (by simp),pq _ 0 hd omq]
  generalize jY 0 (c :: r)=v
  by_cases h2:v<18446744073709551616
  ·rw [if_pos h2]
   dsimp only
   by_cases h3:v<9223372036854775808
   ·rw [if_neg omq,if_neg omq,if_pos h3,if_neg omq]
   ·rw [if_pos omq,if_neg h3]
  ·rw [if_neg h2,if_neg omq]
theorem wq:∀(n:Nat) (l:List UInt8),l.length≤n→l≠[]→digL l→(l.length=1∨∀c r,l=c :: r→c.toNat≠48)→Lib.decDigits (jY 0 l)=l∧(l.length≠1→10≤jY 0 l)∧((∀c r,l=c :: r→c.toNat≠48)→1≤jY 0 l)
 | 0,l,h,hne,_,_=>absurd (List.eq_nil_of_length_eq_zero omq) hne
 | n+1,l,h,hne,hd,hz=>by
  obtain⟨m,x,rfl⟩:∃m x,l=m++[x]:=⟨l.dropLast,l.getLast hne,(List.dropLast_concat_getLast hne).symm⟩
  have hx:=hd x (by simp)
  have hv:jY 0 (m++[x])=jY 0 m*10+(x.toNat-48):=by rw [lm,ob]
  have hx2:UInt8.ofNat (48+(x.toNat-48))=x:=by rw [show 48+(x.toNat-48)=x.toNat by omega,UInt8.ofNat_toNat]
  rw [hv]
  cases m with
  | nil =>
   have e:jY 0 ([]:List UInt8)=0:=rfl
   rw [e]
   refine⟨by rw [eN omq,Nat.zero_mul,Nat.zero_add,hx2];rfl,fun h=>absurd rfl h,fun h=>?_⟩
   have:=h x [] rfl
   omega
  | cons c r =>
   have hz2:c.toNat≠48:=by
    rcases hz with h|h
    ·simp at h
    ·exact h c (r++[x]) rfl
   obtain⟨e1,e2,e3⟩:=wq n (c :: r) (by simp at h ⊢;omega) (by simp) (fun y hy=>hd y (List.mem_append_left _ hy)) (.inr fun c' r' e=>by injection e with e _;rw [←e];exact hz2)
   have e4:=e3 fun c' r' e=>by injection e with e _;rw [←e];exact hz2
   refine⟨?_,fun _=>by omega,fun _=>by omega⟩
   rw [jj omq,show (jY 0 (c :: r)*10+(x.toNat-48)) / 10=jY 0 (c :: r) by omega,show (jY 0 (c :: r)*10+(x.toNat-48)) % 10=x.toNat-48 by omega,hx2,e1]
theorem zd2:∀(n k:Nat),k≤n→Lib.decDigits k≠[]
 | n,k,_=>by
  by_cases h:k<10
  ·rw [eN h];simp
  ·rw [jj h];simp
theorem sw:∀(n k:Nat) (r:List UInt8),k≤n→Lib.decDigits k=48 :: r→r=[]∧k=0
 | n,k,r,hk,h=>by
  by_cases h1:k<10
  ·rw [eN h1] at h
   injection h with h2 h3
   have h4:=congrArg UInt8.toNat h2
   rw [UInt8.toNat_ofNat'] at h4
   have h5:(48:UInt8).toNat=48:=rfl
   exact⟨h3.symm,omq⟩
  ·cases n with
   | zero=>omega
   | succ n =>
    rw [jj h1] at h
    cases hd:Lib.decDigits (k / 10) with
    | nil=>exact absurd hd (zd2 _ _ (nlr _))
    | cons y t =>
     rw [hd] at h
     injection h with h2 h3
     subst h2
     have:=(sw n (k / 10) t omq hd).2
     omega
theorem wu:∀(n k:Nat),k<10 ^ (n+1)→(Lib.decDigits k).length≤n+1
 | 0,k,h=>by rw [eN omq];simp
 | n+1,k,h=>by
  by_cases h1:k<10
  ·rw [eN h1];simp
  ·rw [jj h1,lla,List.length_singleton]
   have:=wu n (k / 10) (by rw [Nat.pow_succ] at h;omega)
   omega
theorem qK {s:ByteArray}(hd:kD cW s=true):digL s.data.toList:=fun c hc=>by
 obtain⟨j,hj,rfl⟩:=List.getElem_of_mem hc
 have hj2:j<s.size:=by rw [Array.length_toList] at hj;exact hj
 have h1:cW (bAt s j)=true:=by simp only [kD,dqt] at hd;exact hd j hj2
 have h2:=ls hj2
 rw [List.getElem?_eq_getElem hj] at h2
 injection h2 with h2
 rw [h2,UInt8.toNat_ofNat',Nat.mod_eq_of_lt (cZ s j)]
 simpa [cW] using h1
theorem ze2 {s:ByteArray}(hd:kD cW s=true)(h1:1≤s.size):(lk s≤2147483647∧iO (lk s:Int)=s)↔bY 1 (wg s) ByteArray.empty=true:=by
 have hne:s.data.toList≠[]:=fun h=>by have:=congrArg List.length h;rw [Array.length_toList] at this;have:s.size=0:=this;omega
 have hdL:=qK hd
 have hlen:s.data.toList.length=s.size:=Array.length_toList
 have hh:s.data.toList[0]? = some (UInt8.ofNat (bAt s 0)):=ls omq
 have hmod:(UInt8.ofNat (bAt s 0)).toNat=bAt s 0:=by rw [UInt8.toNat_ofNat',Nat.mod_eq_of_lt (cZ s 0)]
 have hnum:iO (lk s:Int)=s↔Lib.decDigits (lk s)=s.data.toList:=by
  rw [iP]
  constructor
  ·intro h
   have:=congrArg (fun x:ByteArray=>x.data.toList) h
   simpa using this
  ·intro h
   rw [h]
 rw [hnum]
 have htk:bY 1 (wg s) ByteArray.empty=true↔0≤wg s∧wg s≤2147483647:=by
  unfold bY
  rw [if_pos rfl]
  simp
 rw [htk]
 have hhead:∀c r,s.data.toList=c :: r→c.toNat=bAt s 0:=fun c r e=>by
  rw [e] at hh
  have:c=UInt8.ofNat (bAt s 0):=by simpa using hh
  rw [this,hmod]
 constructor
 ·rintro ⟨a1,a2⟩
  have b1:s.size≤10:=by
   rw [←hlen,←a2]
   exact wu 9 _ (Nat.lt_of_le_of_lt a1 (by decide))
  have b2:¬(1<s.size∧bAt s 0=48):=fun ⟨c1,c2⟩=>by
   cases hl:s.data.toList with
   | nil=>exact hne hl
   | cons c r =>
    have h4:=hhead c r hl
    have h5:c=48:=UInt8.toNat_inj.1 (by rw [h4,c2];rfl)
    subst h5
    rw [hl] at a2
    have:=(sw _ _ r (nlr _) a2).1
    subst this
    rw [hl] at hlen
    simp at hlen
    omega
  rw [jE ⟨h1,b1,b2⟩]
  omega
 ·rintro ⟨a1,a2⟩
  by_cases hb:1≤s.size∧s.size≤10∧¬(1<s.size∧bAt s 0=48)
  ·rw [jE hb] at a2
   refine⟨omq,?_⟩
   refine (wq _ _ (nlr _) hne hdL ?_).1
   by_cases h2:s.size=1
   ·left;omega
   ·right
    intro c r e
    rw [hhead c r e]
    exact fun h=>hb.2.2 ⟨omq,h⟩
  ·rw [l4 hb] at a1
   omega
theorem ke {P:Program}{f:FuncId}{ins:List AV}{res:AV}(he:yC P f=true)
 (hc:∀(w:World) (St:Nat→Prop) (φ:Nat→Lc) (K:Nat→Prop) (us:List Value),Gl w→VRL w St φ K ins us→Calls P f us.toArray w fun e w'=>∃v,e=.returned v∧VRF w' (fun _=>False) φ0 K0 res v []∧Below w.heap.size w w'):Ctr P f ins [] res []:=by
 refine⟨he,fun w St φ F us' hent=>?_⟩
 refine (hc w St φ _ us' hent.gl.1 hent.args).mono ?_
 rintro e w' ⟨v,rfl,hv,hb⟩
 exact⟨_,_,v,fun _=>False,fun _=>[],[],⟨rfl,rfl⟩,rfl,⟨⟨hb.os,hb.tape,hb.output,hb.size,fun b hlt _=>.inl (hb.block b hlt)⟩,hv,by simp,rfl,fun i cs hi=>by simp at hi,fun i hi=>by simp at hi,fun i hi=>by simp at hi,fun i j hi=>by simp at hi,fun i b lo hi=>by simp at hi,fun b hb=>by simp at hb,fun b hb=>hb.elim⟩⟩
theorem vrf_2 {w:World}{St:Nat→Prop}{φ:Nat→Lc}{K:Nat→Prop}{a b:Value}{x y:AC}(ha:CR w St φ K x a [])(hb:CR w St φ K y b []):VRF w St φ K (.tu [.c x,.c y]) (.tuple #[a,b]) []:=by
 simp only [VRF]
 refine⟨[a,b],rfl,?_⟩
 simp only [VRFL]
 refine⟨a,[b],[],[],rfl,rfl,?_,b,[],[],[],rfl,rfl,?_,rfl,rfl⟩
 ·simp only [VRF];exact ha
 ·simp only [VRF];exact hb
theorem zv4 {s:ByteArray}(hd:kD cW s=true)(h1:1≤s.size)(hs:s.size≤1048576)(hv:lk s<9223372036854775808):Ctr prog 64 [.c (.v (.string s))] [] (.tu [.c (.v (.int .i64 (lk s:Int))),.c (.v .nilIface)]) []:=by
 have hne:s.data.toList≠[]:=fun h=>by have:=congrArg List.length h;rw [Array.length_toList] at this;have:s.size=0:=this;omega
 refine ke krq fun w St φ K us gw h=>?_
 simp only [VRL,VR,CR] at h
 obtain⟨u,us1,rfl,⟨rfl,-⟩,rfl⟩:=h
 refine (Go.Proofs.Any.strconv_Atoi_ok su s omq (lk s:Int) (by rw [sv hne (qK hd)];exact if_pos hv) w).mono ?_
 rintro e w' ⟨rfl,hw⟩
 refine⟨_,rfl,vrf_2 (by simp only [CR];exact⟨trivial,rfl,trivial⟩) (by simp only [CR];exact⟨trivial,rfl,trivial⟩),?_⟩
 rcases hw with rfl|⟨t,rfl⟩
 ·exact Below.refl _ _
 ·exact Lib.bytesWorld_below w _ t
theorem zw4 {s:ByteArray}(hd:kD cW s=true)(h1:1≤s.size)(hs:s.size≤1048576)(hv:¬lk s<9223372036854775808):Ctr prog 64 [.c (.v (.string s))] [] (.tu [.c (.v (.int .i64 (Lib.atoiSat s.data.toList))),.c .nn]) []:=by
 have hne:s.data.toList≠[]:=fun h=>by have:=congrArg List.length h;rw [Array.length_toList] at this;have:s.size=0:=this;omega
 refine ke krq fun w St φ K us gw h=>?_
 simp only [VRL,VR,CR] at h
 obtain⟨u,us1,rfl,⟨rfl,-⟩,rfl⟩:=h
 obtain⟨te,pe,hev⟩:=tD gw
 refine (Go.Proofs.Any.strconv_Atoi_range su s omq (by rw [sv hne (qK hd)];exact if_neg hv) _ w hev (.inr ⟨_,_,rfl⟩)).mono ?_
 rintro e w' ⟨N,rfl,-,-,hb⟩
 exact⟨_,rfl,vrf_2 (by simp only [CR];exact⟨trivial,rfl,trivial⟩) (by simp only [CR];exact⟨trivial,_,_,rfl⟩),hb⟩
def hpS (s m:ByteArray):Bool:=Lib.hasPrefix s.data.toList m.data.toList
theorem qL (s m:ByteArray):Ctr prog 102 [.c (.v (.string s)),.c (.v (.string m))] [] (.c (.v (.bool (hpS s m)))) []:=by
 refine ke krq fun w St φ K us gw h=>?_
 simp only [VRL,VR,CR] at h
 obtain⟨u,us1,rfl,⟨rfl,-⟩,u2,us2,rfl,⟨rfl,-⟩,rfl⟩:=h
 refine (Go.Proofs.Any.strings_HasPrefix zt7 s m w).mono ?_
 rintro e w' ⟨rfl,rfl⟩
 exact⟨_,rfl,by unfold hpS;simp only [VRF,CR];exact⟨trivial,rfl,trivial⟩,Below.refl _ _⟩
section
variable {ops:Array Oper}{Q:Exit→Act→World→Prop}{C:Ctx}{H:List (Nat×Oper×Inf)}{i:Nat}{r:List Nat}{dr:Bool}
variable {tm:Nat→AV}{hp:Nat→Option Row}{gn L:Nat}{us:List Nat}
theorem oe {P:Program}{o:Oper}{σ:AS}{y:Value}(hop:ops[i]? = some o)(hg:gw ops σ.tm o=some true)(hs1:qg y=true)(hr:∀(ev:Operand→Value) (w:World),(∀z∈o.op.operands,∃St φ K,VR w St φ K (σ.ev z) (ev z))→(execOp ev o).run P w=.ok (.value y) w):Snd P ops Q C i o σ ⟨fpO σ.ev o,[],[],.c (.v y)⟩:=by
 intro τ a w ha hs K hK
 obtain⟨φ,F,St,hs⟩:=hs
 have h3:=hr a.eval w fun z hz=>⟨St,φ,_,by rw [←ha.ev z hz];exact hs.ev z⟩
 unfold wpOp
 rw [hop]
 have hw:=nT hs (b:=true) (by rw [ha.gw];exact hg)
 simp only [hw,if_true]
 refine .inl ?_
 unfold Oper.wp
 rw [h3]
 have h7:=hs.put o.dst (x:=.c (.v y)) (u:=y) (by simp only [VR,CR];exact⟨trivial,hs1,trivial⟩)
 exact hK _ _ ⟨φ,F,St,h7⟩
theorem zu7 {P:Program}{o:Oper}{T ty t:TypeId}{p:Value}{xo:Operand}(ho:o.op=.binOp .neq T xo (.const .nilIface) ty)(hT:P.isIface T=true)(ev:Operand→Value)(w:World)(hx:ev xo=.iface t p)(hy:ev (.const .nilIface)=.nilIface):(execOp ev o).run P w=.ok (.value (.bool true)) w:=by
 unfold execOp
 rw [ho]
 simp only [hx,hy]
 simp [Sem.run_bind,eqGuard,run_neq_iface_nil w T hT t p]
theorem o_nn {t:Nat}{gd:Option (Nat×Bool)}{ps:String}{af:Array Edge}{ty ty':TypeId}{xo:Operand}(h:Walk prog ops Q C dr (bK dr (i,(⟨some t,.binOp .neq 83 xo (.const .nilIface) ty',ty,ps,af,gd⟩:Oper),⟨fpO (AS.ev ⟨tm,hp,gn,us,L⟩) (⟨some t,.binOp .neq 83 xo (.const .nilIface) ty',ty,ps,af,gd⟩:Oper),[],[],.c (.v (.bool true))⟩) H) r ⟨upd tm t (.c (.v (.bool true))),hp,gn,us,L⟩)
 (ht:Nat.blt t L=true:=by exact rfl) (hg:gw ops tm (⟨some t,.binOp .neq 83 xo (.const .nilIface) ty',ty,ps,af,gd⟩:Oper)=some true:=by exact rfl) (hx:AS.ev ⟨tm,hp,gn,us,L⟩ xo=.c .nn:=by exact rfl)
 (hc:chk dr ops i (⟨some t,.binOp .neq 83 xo (.const .nilIface) ty',ty,ps,af,gd⟩:Oper) ⟨fpO (AS.ev ⟨tm,hp,gn,us,L⟩) (⟨some t,.binOp .neq 83 xo (.const .nilIface) ty',ty,ps,af,gd⟩:Oper),[],[],.c (.v (.bool true))⟩ H=true:=by first|(with_reducible exact bv)|kernel_rfl):WalkO prog ops Q C dr H i (⟨some t,.binOp .neq 83 xo (.const .nilIface) ty',ty,ps,af,gd⟩:Oper) r ⟨tm,hp,gn,us,L⟩:=⟨fun hop=>by
 refine⟨_,_,hop,oe (y:=.bool true) hop hg rfl fun ev w he=>?_,fun n hn=>absurd hn List.not_mem_nil,ep hc,cQ ?_⟩
 ·obtain⟨St,φ,K,h1⟩:=he xo (by show xo∈#[xo,.const .nilIface];simp)
  rw [hx] at h1
  simp only [VR,CR] at h1
  obtain⟨-,t',p,h1⟩:=h1
  obtain⟨St,φ,K,h2⟩:=he (.const .nilIface) (by show _∈#[xo,.const .nilIface];simp)
  have h3:ev (.const .nilIface)=.nilIface:=by
   have h4:VR w St φ K (.c (.v .nilIface)) (ev (.const .nilIface)):=h2
   simp only [VR,CR] at h4
   exact h4.1
  exact zu7 rfl krq ev w h1 h3
 ·show Walk prog ops Q C dr _ r (AS.put _ (some t) _)
  rw [d5 (by exact d4 ht)];exact h⟩
theorem l9 (a0 b0:Int)(a1 b1:Int)(a2 b2:ByteArray)(w:World):(Op.equalIn 10000 63 (.agg #[.int .i64 a0,.int .i64 a1,.string a2]) (.agg #[.int .i64 b0,.int .i64 b1,.string b2])).run prog w=.ok ((a0==b0)&&((a1==b1)&&(a2.toList==b2.toList))) w:=by
 rw [run_equalIn_agg w 9999 _ _ _ krq krq]
 simp only [Program.fieldsOf,underlying63,Op.eqFields]
 simp [go_sem]
 by_cases h0:a0=b0<;>by_cases h1:a1=b1<;>by_cases h2:a2.toList=b2.toList<;>simp [*]
theorem zx4 {t:Nat}{gd:Option (Nat×Bool)}{ps:String}{af:Array Edge}{ty ty':TypeId}{xo yo:Operand}{a0 b0:Int}{a1 b1:Int}{a2 b2:ByteArray}(h:Walk prog ops Q C dr (bK dr (i,(⟨some t,.binOp .eql 63 xo yo ty',ty,ps,af,gd⟩:Oper),⟨fpO (AS.ev ⟨tm,hp,gn,us,L⟩) (⟨some t,.binOp .eql 63 xo yo ty',ty,ps,af,gd⟩:Oper),[],[],.c (.v (.bool ((a0==b0)&&((a1==b1)&&(a2.toList==b2.toList)))))⟩) H) r ⟨upd tm t (.c (.v (.bool ((a0==b0)&&((a1==b1)&&(a2.toList==b2.toList)))))),hp,gn,us,L⟩)
 (ht:Nat.blt t L=true:=by exact rfl) (hg:gw ops tm (⟨some t,.binOp .eql 63 xo yo ty',ty,ps,af,gd⟩:Oper)=some true:=by exact rfl) (hx:AS.ev ⟨tm,hp,gn,us,L⟩ xo=.ag [.v (.int .i64 a0),.v (.int .i64 a1),.v (.string a2)]:=by exact rfl) (hy:AS.ev ⟨tm,hp,gn,us,L⟩ yo=.ag [.v (.int .i64 b0),.v (.int .i64 b1),.v (.string b2)]:=by exact rfl)
 (hc:chk dr ops i (⟨some t,.binOp .eql 63 xo yo ty',ty,ps,af,gd⟩:Oper) ⟨fpO (AS.ev ⟨tm,hp,gn,us,L⟩) (⟨some t,.binOp .eql 63 xo yo ty',ty,ps,af,gd⟩:Oper),[],[],.c (.v (.bool ((a0==b0)&&((a1==b1)&&(a2.toList==b2.toList)))))⟩ H=true:=by first|(with_reducible exact bv)|kernel_rfl):WalkO prog ops Q C dr H i (⟨some t,.binOp .eql 63 xo yo ty',ty,ps,af,gd⟩:Oper) r ⟨tm,hp,gn,us,L⟩ :=
 ⟨fun hop=>w_eqS (xs:=[.int .i64 a0,.int .i64 a1,.string a2]) (ys:=[.int .i64 b0,.int .i64 b1,.string b2]) hop rfl rfl ht hg krq (by rw [hx];rfl) (by rw [hy];rfl) (l9 a0 b0 a1 b1 a2 b2) (.inl ⟨rfl,rfl⟩) hc h⟩
theorem qM {t:Nat}{gd:Option (Nat×Bool)}{ps:String}{af:Array Edge}{ty ty':TypeId}{xo yo:Operand}{a0 b0:Int}{a1 b1:Int}{a2 b2:ByteArray}(h:Walk prog ops Q C false [] r ⟨upd tm t (.c (.v (.bool ((a0==b0)&&((a1==b1)&&(a2.toList==b2.toList)))))),hp,gn,us,L⟩)(ht:Nat.blt t L=true:=by exact rfl)(hg:gw ops tm (⟨some t,.binOp .eql 63 xo yo ty',ty,ps,af,gd⟩:Oper)=some true:=by exact rfl)(hx:AS.ev ⟨tm,hp,gn,us,L⟩ xo=.ag [.v (.int .i64 a0),.v (.int .i64 a1),.v (.string a2)]:=by exact rfl)(hy:AS.ev ⟨tm,hp,gn,us,L⟩ yo=.ag [.v (.int .i64 b0),.v (.int .i64 b1),.v (.string b2)]:=by exact rfl):WalkO prog ops Q C false [] i (⟨some t,.binOp .eql 63 xo yo ty',ty,ps,af,gd⟩:Oper) r ⟨tm,hp,gn,us,L⟩:=zx4 (dr:=false) (H:=[]) (h:=h) (ht:=ht) (hg:=hg) (hx:=hx) (hy:=hy)
end
theorem og {s:ByteArray}{a b k:Nat}(hb:b≤s.size):(bz s a b).data.toList[k]? = if a+k<b then some (UInt8.ofNat (bAt s (a+k))) else none:=by
 unfold bz bAt
 rw [Array.getElem?_toList,ByteArray.data_extract,Array.getElem?_extract]
 have e:s.data.size=s.size:=rfl
 by_cases h:a+k<b
 ·rw [if_pos h,if_pos omq,Array.getElem?_eq_getElem (show a+k<s.data.size by omega),Option.getD_some,UInt8.ofNat_toNat]
 ·rw [if_neg h,if_neg omq]
theorem wv {a b:Nat}(ha:a<256)(hb:b<256)(h:UInt8.ofNat a=UInt8.ofNat b):a=b:=by
 have:=congrArg UInt8.toNat h
 rw [UInt8.toNat_ofNat',UInt8.toNat_ofNat'] at this
 omega
theorem ww {s:ByteArray}{a c:Nat}(ha:a≤s.size)(hc:c<256):Lib.indexByte (bz s a s.size).data.toList (UInt8.ofNat c)=if bL (neB c) s s.size a<s.size then ((bL (neB c) s s.size a-a:Nat):Int) else -1:=by
 obtain⟨g1,g2,g3',g4'⟩:=bP (p:=neB c) (s:=s) s.size a ha omq
 have g3:∀j,a≤j→j<bL (neB c) s s.size a→bAt s j≠c:=fun j h1 h2=>by simpa [neB] using g3' j h1 h2
 have g4:bL (neB c) s s.size a<s.size→bAt s (bL (neB c) s s.size a)=c:=fun h=>by simpa [neB] using g4' h
 clear g3' g4'
 have hge:=Lib.indexByte_ge (bz s a s.size).data.toList (UInt8.ofNat c)
 rcases Int.lt_or_le (Lib.indexByte (bz s a s.size).data.toList (UInt8.ofNat c)) 0 with hn|hn
 ·have e:Lib.indexByte (bz s a s.size).data.toList (UInt8.ofNat c) = -1:=by omega
  rw [e]
  have h0:=Lib.indexByte_none e
  by_cases hu:bL (neB c) s s.size a<s.size
  ·exfalso
   have h1:=h0 (bL (neB c) s s.size a-a)
   rw [og (nlr _),if_pos omq,show a+(bL (neB c) s s.size a-a)=bL (neB c) s s.size a by omega,g4 hu] at h1
   exact h1 rfl
  ·rw [if_neg hu]
 ·obtain⟨o,ho⟩:∃o:Nat,Lib.indexByte (bz s a s.size).data.toList (UInt8.ofNat c)=(o:Int):=⟨_,(Int.toNat_of_nonneg hn).symm⟩
  obtain⟨h1,h2⟩:=Lib.indexByte_some ho
  rw [og (nlr _)] at h1
  by_cases hlt:a+o<s.size
  ·rw [if_pos hlt] at h1
   injection h1 with h1
   have h3:=wv (cZ _ _) hc h1
   have h4:bL (neB c) s s.size a=a+o:=by
    rcases Nat.lt_trichotomy (bL (neB c) s s.size a) (a+o) with h|h|h
    ·exfalso
     have h5:=h2 (bL (neB c) s s.size a-a) omq
     rw [og (nlr _),if_pos omq,show a+(bL (neB c) s s.size a-a)=bL (neB c) s s.size a by omega,g4 omq] at h5
     exact h5 rfl
    ·exact h
    ·exact absurd h3 (g3 (a+o) omq h)
   rw [ho,h4,if_pos hlt,show a+o-a=o by omega]
  ·rw [if_neg hlt] at h1;cases h1
theorem nx {s:ByteArray}(hs:s.size≤1048576)(h0:0<s.size):Ctr prog 61 [.c (.v (.string s))] [] (if bL (neB (bAt s 0)) s s.size 1=s.size then .tu [.c (.v (.string ByteArray.empty)),.c (.v (.bool false))] else .tu [.c (.v (.string (bz s 1 (bL (neB (bAt s 0)) s s.size 1)))),.c (.v (.bool true))]) []:=by
 have c1:=fU (bz s 1 s.size) (cZ s 0)
 rw [ww omq (cZ s 0)] at c1
 have hr:=bP (p:=neB (bAt s 0)) (s:=s) s.size 1 omq omq
 have g1:=hr.1
 have g2:=hr.2.1
 clear hr
 generalize bL (neB (bAt s 0)) s s.size 1=e at c1 g1 g2 ⊢
 by_cases h:e=s.size
 ·rw [if_pos h]
  rw [if_neg omq] at c1
  refine az func61 rfl rfl ?_
  repeat' (first|(apply ay;first|refine ak ?_|refine ai ?_|refine aA ?_)|refine aj ?_|refine ab ?_|(apply da;first|(apply dC;refine aD ?_)|(apply iu;refine aD ?_)|refine ei c1 ?_|refine eU ?_|refine gZ ?_)|refine aj ?_|refine ab ?_|refine aa fun C=>?_|refine av krq krq fun C=>?_|refine ac ?_|refine aq rfl ?_)
  refine am ?_;refine bA rfl (cg (aG aJ (aG aJ bj))) ⟨?_,rfl⟩;rfl
 ·rw [if_neg h]
  rw [if_pos omq] at c1
  have he:((e-1:Nat):Int)+1=(e:Int):=by omega
  refine az func61 rfl rfl ?_
  repeat' (first|(apply ay;first|refine ak ?_|refine ai ?_|refine aA ?_|refine aw ?_|refine fy ?_)|refine aj ?_|refine ab ?_|(apply da;first|(apply dC;refine aD ?_)|(apply iu;refine aD ?_)|refine ei c1 ?_|refine eU ?_|refine gZ ?_)|refine aj ?_|refine ab ?_|refine aa fun C=>?_|refine av krq krq fun C=>?_|refine ac ?_|refine al ?_|(refine ae rqf ?_ ?_<;>intro hC<;>(try cases hC)))
  all_goals first
   | (exfalso;simp only [dqt] at hC;omega)
   | (refine am ?_;refine bA rfl (cg (aG aJ (aG aJ bj))) ⟨?_,rfl⟩;rfl)
def zo:List ByteArray:=[⟨#[60,61]⟩,⟨#[61,61]⟩,⟨#[33,61]⟩,⟨#[62,61]⟩,⟨#[38,38]⟩,⟨#[124,124]⟩]
def sixL:List E:=[.str ⟨#[60,61]⟩,.str ⟨#[61,61]⟩,.str ⟨#[33,61]⟩,.str ⟨#[62,61]⟩,.str ⟨#[38,38]⟩,.str ⟨#[124,124]⟩]
theorem zf2 {s:ByteArray}{x y:UInt8}:hpS s ⟨#[x,y]⟩=true↔2≤s.size∧bAt s 0=x.toNat∧bAt s 1=y.toNat:=by
 have hl:s.data.toList.length=s.size:=Array.length_toList
 have hb:∀j,bAt s j=(s.data.toList[j]?.getD 0).toNat:=fun j=>by unfold bAt;rw [Array.getElem?_toList]
 unfold hpS Lib.hasPrefix
 rw [hb 0,hb 1,←hl]
 show ([x,y]:List UInt8).isPrefixOf s.data.toList=true↔_
 generalize s.data.toList=l
 match l with
 | []=>simp
 | [a]=>simp
 | a :: b :: r =>
  simp only [List.isPrefixOf_iff_prefix,List.length_cons,List.getElem?_cons_zero,List.getElem?_cons_succ,Option.getD_some]
  constructor
  ·intro h
   obtain⟨t,ht⟩:=h
   have h1:x=a:=by injection ht
   have h2:y=b:=by injection ht with _ h;injection h
   exact⟨omq,by rw [h1],by rw [h2]⟩
  ·rintro ⟨-,h1,h2⟩
   rw [UInt8.toNat_inj.1 h1,UInt8.toNat_inj.1 h2]
   exact⟨r,rfl⟩
theorem zy4 {s:ByteArray}(h:2≤s.size):bz s 0 2=⟨#[UInt8.ofNat (bAt s 0),UInt8.ofNat (bAt s 1)]⟩:=by
 have hz:=bO (s:=s) (a:=0) (b:=2) omq h
 rw [wk hz,d6 h omq,d6 h omq]
theorem iR {s:ByteArray}{x y:UInt8}(h6:n8 x.toNat y.toNat=true)(h:hpS s ⟨#[x,y]⟩=true):qF s=⟨#[x,y]⟩:=by
 obtain⟨h1,h2,h3⟩:=zf2.1 h
 unfold qF
 rw [if_pos ⟨h1,by rw [h2,h3];exact h6⟩,zy4 h1,h2,h3,UInt8.ofNat_toNat,UInt8.ofNat_toNat]
theorem wx {s:ByteArray}(h:∀m∈zo,hpS s m=false):¬(2≤s.size∧n8 (bAt s 0) (bAt s 1)=true):=fun ⟨h1,h2⟩=>by
 have key:∀x y:UInt8,bAt s 0=x.toNat→bAt s 1=y.toNat→(⟨#[x,y]⟩:ByteArray)∈zo→False:=fun x y e1 e2 hm=>by
  have:=h _ hm
  rw [zf2.2 ⟨h1,e1,e2⟩] at this
  cases this
 simp only [n8,Bool.or_eq_true,baq,dqt] at h2
 rcases h2 with ⟨f1,f2|f2|f2|f2⟩|⟨f2,f1⟩|⟨f2,f1⟩
 ·exact key 60 61 f2 f1 (by simp [zo])
 ·exact key 61 61 f2 f1 (by simp [zo])
 ·exact key 33 61 f2 f1 (by simp [zo])
 ·exact key 62 61 f2 f1 (by simp [zo])
 ·exact key 38 38 f2 f1 (by simp [zo])
 ·exact key 124 124 f2 f1 (by simp [zo])
theorem zz4:∀c:Fin 256,decide (0≤Lib.indexByte [123,125,40,41,91,93,44,59,36,43,45,42,47,37,46,60,62,33,126,61] (UInt8.ofNat c.1))=lY c.1:=by decide
theorem zp {s:ByteArray}(hs:s.size≤1048576):Ctr prog 69 [.c (.v (.string s))] [] (.c (.v (.string (qF s)))) []:=by
 have hP:=qL s
 refine az func69 rfl rfl ?_
 repeat' (first|(apply ay;first|refine ak ?_|refine ai ?_|refine cJ ?_|refine dT ?_)|refine aj ?_|refine ab ?_|refine aa fun C=>?_|refine ac ?_|refine ah ?_)
 refine aY (fun k:Nat=>⟨ft [(0,.c (.v (.string s))),(5,.c (.sl 5 6)),(6,.c (.v (.int .i64 6))),(7,.c (.v (.int .i64 (k:Int))))],eW [(5,5,⟨9,1,6,false,owL sixL⟩)],0,[5],26⟩)
  (fun N k=>k+N=6∧∀j m,j<k→zo[j]? = some m→hpS s m=false) 6 0 ⟨omq,fun j m hj=>absurd hj (Nat.not_lt_zero j)⟩ ?_ ?_
 ·show Gh _ _
  (refine aL _ _ rfl rfl ?_ ?_<;>exact tdy2)
 rintro N k ⟨hN,hr⟩
 try dsimp only
 by_cases hk:k<6
 ·rcases (show k=0∨k=1∨k=2∨k=3∨k=4∨k=5 by omega) with rfl|rfl|rfl|rfl|rfl|rfl
  ·have c1:=hP ⟨#[60,61]⟩
   cases hq:hpS s ⟨#[60,61]⟩ with
   | true =>
    rw [hq] at c1
    rw [iR (x:=60) (y:=61) (by decide) hq]
    repeat' (first|(apply ay;first|refine ak ?_|refine ai ?_|refine aI ?_|refine aH c1 ?_|refine eG ?_|refine aA ?_)|refine aj ?_|refine ab ?_|refine aa fun C=>?_|refine ac ?_|refine ah ?_|refine al ?_|refine aq rfl ?_)
    exact eo
   | false =>
    rw [hq] at c1
    repeat' (first|(apply ay;first|refine ak ?_|refine ai ?_|refine aI ?_|refine aH c1 ?_|refine eG ?_|refine aA ?_|refine aw ?_)|refine aj ?_|refine ab ?_|refine aa fun C=>?_|refine ac ?_|refine ah ?_|refine al ?_|refine aq rfl ?_|refine ar rfl ?_)
    refine⟨N-1,1,omq,⟨omq,fun j m hj hm=>?_⟩,?_⟩
    ·by_cases e:j=0
     ·subst e
      injection hm with hm
      rw [←hm];exact hq
     ·exact hr j m omq hm
    ·show Gh _ _
     (refine aL _ _ rfl rfl ?_ ?_<;>exact tdy2)
  ·have c1:=hP ⟨#[61,61]⟩
   cases hq:hpS s ⟨#[61,61]⟩ with
   | true =>
    rw [hq] at c1
    rw [iR (x:=61) (y:=61) (by decide) hq]
    repeat' (first|(apply ay;first|refine ak ?_|refine ai ?_|refine aI ?_|refine aH c1 ?_|refine eG ?_|refine aA ?_)|refine aj ?_|refine ab ?_|refine aa fun C=>?_|refine ac ?_|refine ah ?_|refine al ?_|refine aq rfl ?_)
    exact eo
   | false =>
    rw [hq] at c1
    repeat' (first|(apply ay;first|refine ak ?_|refine ai ?_|refine aI ?_|refine aH c1 ?_|refine eG ?_|refine aA ?_|refine aw ?_)|refine aj ?_|refine ab ?_|refine aa fun C=>?_|refine ac ?_|refine ah ?_|refine al ?_|refine aq rfl ?_|refine ar rfl ?_)
    refine⟨N-1,2,omq,⟨omq,fun j m hj hm=>?_⟩,?_⟩
    ·by_cases e:j=1
     ·subst e
      injection hm with hm
      rw [←hm];exact hq
     ·exact hr j m omq hm
    ·show Gh _ _
     (refine aL _ _ rfl rfl ?_ ?_<;>exact tdy2)
  ·have c1:=hP ⟨#[33,61]⟩
   cases hq:hpS s ⟨#[33,61]⟩ with
   | true =>
    rw [hq] at c1
    rw [iR (x:=33) (y:=61) (by decide) hq]
    repeat' (first|(apply ay;first|refine ak ?_|refine ai ?_|refine aI ?_|refine aH c1 ?_|refine eG ?_|refine aA ?_)|refine aj ?_|refine ab ?_|refine aa fun C=>?_|refine ac ?_|refine ah ?_|refine al ?_|refine aq rfl ?_)
    exact eo
   | false =>
    rw [hq] at c1
    repeat' (first|(apply ay;first|refine ak ?_|refine ai ?_|refine aI ?_|refine aH c1 ?_|refine eG ?_|refine aA ?_|refine aw ?_)|refine aj ?_|refine ab ?_|refine aa fun C=>?_|refine ac ?_|refine ah ?_|refine al ?_|refine aq rfl ?_|refine ar rfl ?_)
    refine⟨N-1,3,omq,⟨omq,fun j m hj hm=>?_⟩,?_⟩
    ·by_cases e:j=2
     ·subst e
      injection hm with hm
      rw [←hm];exact hq
     ·exact hr j m omq hm
    ·show Gh _ _
     (refine aL _ _ rfl rfl ?_ ?_<;>exact tdy2)
  ·have c1:=hP ⟨#[62,61]⟩
   cases hq:hpS s ⟨#[62,61]⟩ with
   | true =>
    rw [hq] at c1
    rw [iR (x:=62) (y:=61) (by decide) hq]
    repeat' (first|(apply ay;first|refine ak ?_|refine ai ?_|refine aI ?_|refine aH c1 ?_|refine eG ?_|refine aA ?_)|refine aj ?_|refine ab ?_|refine aa fun C=>?_|refine ac ?_|refine ah ?_|refine al ?_|refine aq rfl ?_)
    exact eo
   | false =>
    rw [hq] at c1
    repeat' (first|(apply ay;first|refine ak ?_|refine ai ?_|refine aI ?_|refine aH c1 ?_|refine eG ?_|refine aA ?_|refine aw ?_)|refine aj ?_|refine ab ?_|refine aa fun C=>?_|refine ac ?_|refine ah ?_|refine al ?_|refine aq rfl ?_|refine ar rfl ?_)
    refine⟨N-1,4,omq,⟨omq,fun j m hj hm=>?_⟩,?_⟩
    ·by_cases e:j=3
     ·subst e
      injection hm with hm
      rw [←hm];exact hq
     ·exact hr j m omq hm
    ·show Gh _ _
     (refine aL _ _ rfl rfl ?_ ?_<;>exact tdy2)
  ·have c1:=hP ⟨#[38,38]⟩
   cases hq:hpS s ⟨#[38,38]⟩ with
   | true =>
    rw [hq] at c1
    rw [iR (x:=38) (y:=38) (by decide) hq]
    repeat' (first|(apply ay;first|refine ak ?_|refine ai ?_|refine aI ?_|refine aH c1 ?_|refine eG ?_|refine aA ?_)|refine aj ?_|refine ab ?_|refine aa fun C=>?_|refine ac ?_|refine ah ?_|refine al ?_|refine aq rfl ?_)
    exact eo
   | false =>
    rw [hq] at c1
    repeat' (first|(apply ay;first|refine ak ?_|refine ai ?_|refine aI ?_|refine aH c1 ?_|refine eG ?_|refine aA ?_|refine aw ?_)|refine aj ?_|refine ab ?_|refine aa fun C=>?_|refine ac ?_|refine ah ?_|refine al ?_|refine aq rfl ?_|refine ar rfl ?_)
    refine⟨N-1,5,omq,⟨omq,fun j m hj hm=>?_⟩,?_⟩
    ·by_cases e:j=4
     ·subst e
      injection hm with hm
      rw [←hm];exact hq
     ·exact hr j m omq hm
    ·show Gh _ _
     (refine aL _ _ rfl rfl ?_ ?_<;>exact tdy2)
  ·have c1:=hP ⟨#[124,124]⟩
   cases hq:hpS s ⟨#[124,124]⟩ with
   | true =>
    rw [hq] at c1
    rw [iR (x:=124) (y:=124) (by decide) hq]
    repeat' (first|(apply ay;first|refine ak ?_|refine ai ?_|refine aI ?_|refine aH c1 ?_|refine eG ?_|refine aA ?_)|refine aj ?_|refine ab ?_|refine aa fun C=>?_|refine ac ?_|refine ah ?_|refine al ?_|refine aq rfl ?_)
    exact eo
   | false =>
    rw [hq] at c1
    repeat' (first|(apply ay;first|refine ak ?_|refine ai ?_|refine aI ?_|refine aH c1 ?_|refine eG ?_|refine aA ?_|refine aw ?_)|refine aj ?_|refine ab ?_|refine aa fun C=>?_|refine ac ?_|refine ah ?_|refine al ?_|refine aq rfl ?_|refine ar rfl ?_)
    refine⟨N-1,6,omq,⟨omq,fun j m hj hm=>?_⟩,?_⟩
    ·by_cases e:j=5
     ·subst e
      injection hm with hm
      rw [←hm];exact hq
     ·exact hr j m omq hm
    ·show Gh _ _
     (refine aL _ _ rfl rfl ?_ ?_<;>exact tdy2)
 ·have hk':k=6:=by omega
  subst hk'
  have hmiss:=wx (s:=s) fun m hm=>by
   obtain⟨j,hj,rfl⟩:=List.getElem_of_mem hm
   exact hr j _ hj (List.getElem?_eq_getElem hj)
  unfold qF
  rw [if_neg hmiss]
  by_cases h0:s.size=0
  ·rw [if_neg omq]
   have hz:=iw (s:=s) (t:=⟨#[]⟩) h0 fun j hj=>absurd hj omq
   repeat' (first|(apply ay;first|refine bH ?_|(refine aK ?_ ?_<;>intro hG<;>(try cases hG))|refine ak ?_|refine ai ?_|refine dM ?_|refine aA ?_|refine aB ?_)|refine aj ?_|refine ab ?_|refine aa fun C=>?_|refine ac ?_|refine al ?_|refine aE ?_|(refine ae rqf ?_ ?_<;>intro hC<;>(try cases hC)))
   all_goals first
    | (exfalso;simp_all;done)
    | (refine am ?_;refine bA rfl aJ ⟨?_,rfl⟩;rfl)
  ·have c1:=fU ⟨#[123,125,40,41,91,93,44,59,36,43,45,42,47,37,46,60,62,33,126,61]⟩ (cZ s 0)
   have h3:decide (0≤Lib.indexByte (ByteArray.mk #[123,125,40,41,91,93,44,59,36,43,45,42,47,37,46,60,62,33,126,61]).data.toList (UInt8.ofNat (bAt s 0)))=lY (bAt s 0):=zz4 ⟨bAt s 0,cZ s 0⟩
   generalize Lib.indexByte (ByteArray.mk #[123,125,40,41,91,93,44,59,36,43,45,42,47,37,46,60,62,33,126,61]).data.toList (UInt8.ofNat (bAt s 0))=z at c1 h3
   have h01:0<s.size:=by omega
   have hne:(s.toList==(ByteArray.mk #[]).toList)=false:=by rw [oc];exact decide_eq_false h0
   cases h4:lY (bAt s 0) with
   | true =>
    rw [h4] at h3
    have hz:0≤z:=of_decide_eq_true h3
    rw [if_pos ⟨omq,rfl⟩]
    repeat' (first|(apply ay;first|refine bH ?_|(refine aK ?_ ?_<;>intro hG<;>(try cases hG))|refine ak ?_|refine ai ?_|refine aH c1 ?_|refine dM ?_|refine aA ?_|refine bX ?_|refine aB ?_|refine bV ?_|refine e8 ?_)|refine aj ?_|refine ab ?_|refine aa fun C=>?_|refine ac ?_|refine al ?_|refine aE ?_|(refine ae rqf ?_ ?_<;>intro hC<;>(try cases hC)))
    all_goals first
     | (exfalso;rw [bne,hne] at hG;cases hG;done)
     | (exfalso;simp only [dqn] at hC;omega)
     | (refine am ?_;refine bA rfl aJ ⟨?_,rfl⟩;rfl)
   | false =>
    rw [h4] at h3
    have hz:¬0≤z:=of_decide_eq_false h3
    rw [if_neg (by simp)]
    repeat' (first|(apply ay;first|refine bH ?_|(refine aK ?_ ?_<;>intro hG<;>(try cases hG))|refine ak ?_|refine ai ?_|refine aH c1 ?_|refine dM ?_|refine aA ?_|refine bX ?_|refine aB ?_|refine bV ?_|refine e8 ?_)|refine aj ?_|refine ab ?_|refine aa fun C=>?_|refine ac ?_|refine al ?_|refine aE ?_|(refine ae rqf ?_ ?_<;>intro hC<;>(try cases hC)))
    all_goals first
     | (exfalso;simp only [dqt] at hC;omega)
     | (refine am ?_;refine bA rfl aJ ⟨?_,rfl⟩;rfl)
end Go.Proofs.YtomolhbkdhjofaaGreatDoor
