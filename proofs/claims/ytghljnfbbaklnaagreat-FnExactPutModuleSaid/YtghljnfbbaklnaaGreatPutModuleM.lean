/- PutU and PutIns of both sides; toByteS, eqByteS. -/
import Derived.StillTailTactics
import Derived.Test.YtghljnfbbaklnaaGreatPutModuleL
namespace Go.Proofs.YtghljnfbbaklnaaGreat
open Go.RowKit
theorem zn6 (d:UInt8):(encB d).length=1:=rfl
theorem zb8 (d:UInt8)(u:Value)(h:u∈encB d):u.oneCell'=true:=by
 simp [encB] at h;subst h;rfl
theorem elB:El Tryz.prog 28 5 1 1:=El.mk (z:=.int .u8 0) Tryz.underlying28 (by kernel_rfl) rfl (by omega) (by omega)
theorem zg16 (n:Int)(h₀:0≤n)(h₁:n<2 ^ 63):IntKind.i64.wrap n=n:=by rw [IntKind.wrap_i64];omega
theorem and127 (x:Int)(h₀:0≤x)(h₁:x<2 ^ 63):bits .and .i64 x 127=x % 128:=bits_mask .i64 63 (by decide) zg16 7 (by decide) x h₀ h₁
theorem or128 (x:Int)(h₀:0≤x)(h₁:x<128):bits .or .i64 x 128=x+128:=by
 obtain⟨a,rfl⟩:=Int.eq_ofNat_of_zero_le h₀
 have:=(bits_nat .i64 63 (by decide) zg16 a 128 (by omega) (by omega)).2
 rw [show (((128:Nat):Int))=128 from rfl] at this
 rw [this]
 have ha:a<128:=by omega
 have e:∀a<128,a ||| 128=a+128:=by decide
 rw [e a ha];simp
def put7:Nat→Nat→List UInt8
 | 0,n=>[UInt8.ofNat n]
 | f+1,n=>if 127<n then UInt8.ofNat (n % 128+128) :: put7 f (n / 128) else [UInt8.ofNat n]
def clampU (n:Int):Nat:=if n<0 then 0 else if 2147483647<n then 2147483647 else n.toNat
def putU (n:Int):List UInt8:=put7 5 (clampU n)
theorem zh16 (n:Int):clampU n≤2147483647:=by unfold clampU;split<;>(try split)<;>omega
def clampI (n lo hi:Int):Int:=if n<lo then lo else if hi<n then hi else n
theorem clamp_any (n lo hi:Int)(w:World)(h:lo≤hi):Calls Tryz.prog 112 #[.int .i64 n,.int .i64 lo,.int .i64 hi] w fun e w' =>
 e=.returned (.int .i64 (clampI n lo hi))∧w=w':=by
 by_cases h1:n<lo
 ·have e:clampI n lo hi=lo:=if_pos h1
  rw [e]
  clear e
  go_enter Tryz.func112,Tryz.ntmps112
  go_wp2
  go_ret
  exact⟨by first|rfl|exact ri (by omega),rfl⟩
 ·by_cases h2:hi<n
  ·have e:clampI n lo hi=hi:=by unfold clampI;rw [if_neg h1,if_pos h2]
   rw [e]
   clear e
   go_enter Tryz.func112,Tryz.ntmps112
   go_wp2
   go_ret
   exact⟨by first|exact ri (by omega)|(simp<;>omega),rfl⟩
  ·have e:clampI n lo hi=n:=by unfold clampI;rw [if_neg h1,if_neg h2]
   rw [e]
   clear e
   go_enter Tryz.func112,Tryz.ntmps112
   go_wp2
   go_ret
   exact⟨by first|exact ri (by omega)|(simp<;>omega),rfl⟩
theorem u8_cs (m:Nat)(h:m<256)(X:Int)(hX:X=m):(#[Value.int .u8 X]:Array Value).toList=encB (UInt8.ofNat m):=by
 subst hX
 simp [encB];omega
theorem zk19 {f m:Nat}{pre l:List UInt8}(hlt:127<m)(hmf:m<128 ^ (f+1))(h:pre++put7 f m=l):∃f',f=f'+1∧m / 128<128 ^ (f'+1)∧(pre++[UInt8.ofNat (m % 128+128)])++put7 f' (m / 128)=l:=by
 match f,hmf,h with
 | 0,hmf,h=>omega
 | f+1,hmf,h =>
  refine⟨f,rfl,?_,?_⟩
  ·rw [Nat.pow_succ] at hmf;omega
  ·rw [put7,if_pos hlt] at h;rw [List.append_assoc];exact h
theorem put_end {f m:Nat}{pre l:List UInt8}(hlt:¬127<m)(h:pre++put7 f m=l):pre++[UInt8.ofNat m]=l:=by
 match f,h with
 | 0,h=>exact h
 | f+1,h=>rw [put7,if_neg hlt] at h;exact h
set_option maxRecDepth 100000 in
set_option maxHeartbeats 1000000 in
theorem zy6 (A:Option Addr)(ln c:Nat)(ds:List UInt8)(n:Int)(w:World)(hs:Rd w 1 encB (.slice A ln c) ds)(hn:ds.length≤1073741824) :
 Calls Tryz.prog 30 #[.slice A ln c,.int .i64 n] w fun e w'=>∃v,e=.returned v∧Own w' w.heap.size w'.heap.size 5 1 encB v (ds++putU n)∧Below w.heap.size w w':=by
 obtain rfl:=hs.len_eq
 have ho0:Own (w.alloc (.cells #[] 5)) w.heap.size (w.heap.size+1) 5 1 encB (.slice (some ⟨w.heap.size,0,none⟩) 0 0) []:=own_lit (Nat.le_refl _) zn6 rfl (by unfold maxLen;omega) rfl
 have hs0:Rd (w.alloc (.cells #[] 5)) 1 encB (.slice A ds.length c) ds:=hs.alloc _
 have hz0:(([]:List UInt8).length+ds.length)*1≤140737488355328:=by simp;omega
 have hb0:w.heap.size≤(w.alloc (.cells #[] 5)).heap.size:=by simp
 have HC:=Lib.hid (show clampU n=clampU n from rfl)
 obtain⟨N,hN⟩:∃N,clampU n=N:=⟨_,rfl⟩
 have hNb:N≤2147483647:=hN▸zh16 n
 have hP:putU n=put7 5 N:=by unfold putU;rw [hN]
 rw [hP]
 obtain⟨L,hL⟩:∃L,put7 5 N=L:=⟨_,rfl⟩
 rw [hL]
 have HL:=Lib.hid hL
 unfold clampU at hN
 have HN:=Lib.hid hN
 clear hN hP hL
 go_enter Tryz.func30,Tryz.ntmps30
 go_wp2_with (at_builtin;refine zu21 elB zn6 zb8 rfl (.tmp 6) (.tmp 7) rfl _ [] rfl ho0 A c ds rfl hs0 hz0 hb0 ?_;intro v' w1 ho1 hb1)
 all_goals
  go_loopw [1,5] (fun q v wr=>∃(m f:Nat) (pre:List UInt8),q=.int .i64 m∧m≤2147483647∧m<128 ^ (f+1)∧pre.length+f≤5∧pre++put7 f m=L∧Own wr w.heap.size wr.heap.size 5 1 encB v (ds++pre)∧Below w.heap.size w wr) (fun q _ _=>(intOf q).toNat)
  case atStart =>
   have h:=HN.out
   exact⟨N,5,[],by (first|rw [if_pos (by omega)] at h|(rw [if_neg (by omega)] at h;first|rw [if_pos (by omega)] at h|rw [if_neg (by omega)] at h));congr 1;omega,hNb,by omega,by simp,HL.out,by simpa using ho1,by0⟩
  case round =>
   obtain⟨m,f,pre,rfl,hm,hmf,hpf,hput,ho,hb⟩:=hrel
   obtain⟨A',c',rfl⟩:=ho.form
   have HP:=Lib.hid hput
   have HM:=Lib.hid hmf
   clear hput hmf
   have hzb:=hb.size
   have hl1:((ds++pre).length+1)*1≤140737488355328:=by simp;omega
   by_cases hlt:127<m
   ·have e1:bits .and .i64 (m:Int) 127=(m:Int) % 128:=and127 _ (by omega) (by omega)
    have e2:bits .or .i64 ((m:Int) % 128) 128=(m:Int) % 128+128:=or128 _ (by omega) (by omega)
    have e3:((m:Int) % 128+128) % 256=(m:Int) % 128+128:=by omega
    have e4:=u8_cs (m % 128+128) (by omega) ((m:Int) % 128+128) (by omega)
    go_wp2_with (at_builtin;refine zx13 elB zn6 zb8 rfl (.tmp 15) (.tmp 20) rfl _ (ds++pre) (UInt8.ofNat (m % 128+128)) rfl ho (Nat.le_refl _) rfl e4 hl1 hzb ?_;intro v2 w2 ho2 hb2)
    go_roundw
    case rel =>
     obtain⟨f',rfl,h1,h2⟩:=zk19 hlt HM.out HP.out
     exact⟨m / 128,f',_,by go_num,by omega,h1,by simp;omega,h2,by rw [←List.append_assoc];exact ho2,hb.trans hb2⟩
    case measure=>simp [intOf];omega
   ·have e3:(m:Int) % 256=m:=by omega
    have e4:=u8_cs m (by omega) m rfl
    go_wp2_with (at_builtin;refine zx13 elB zn6 zb8 rfl (.tmp 24) (.tmp 27) rfl _ (ds++pre) (UInt8.ofNat m) rfl ho (Nat.le_refl _) rfl e4 hl1 hzb ?_;intro v2 w2 ho2 hb2)
    go_ret
    exact⟨v2,rfl,by rw [←put_end hlt HP.out,←List.append_assoc];exact ho2,hb.trans hb2⟩
set_option maxRecDepth 100000 in
set_option maxHeartbeats 1000000 in
theorem zz6 (A:Option Addr)(ln c:Nat)(ds:List UInt8)(n:Int)(w:World)(hs:Rd w 1 encB (.slice A ln c) ds)(hn:ds.length≤1073741824) :
 Calls Tryz.prog 38 #[.slice A ln c,.int .i64 n] w fun e w'=>∃v,e=.returned v∧Own w' w.heap.size w'.heap.size 5 1 encB v (ds++putU n)∧Below w.heap.size w w':=by
 obtain rfl:=hs.len_eq
 have ho0:Own w w.heap.size w.heap.size 5 1 encB (.slice none 0 0) ([]:List UInt8):=own_nil _ _ _ _ _ _
 have hz0:(([]:List UInt8).length+ds.length)*1≤140737488355328:=by simp;omega
 obtain⟨N,hN⟩:∃N,clampU n=N:=⟨_,rfl⟩
 have hNb:N≤2147483647:=hN▸zh16 n
 have hcl:clampI n 0 2147483647=(N:Int):=by
  rw [←hN];unfold clampI clampU;split<;>(try split)<;>omega
 have hclb:clampI n 0 2147483647=(N:Int):=hcl
 have HCL:=Lib.hid hcl
 have hP:putU n=put7 5 N:=by unfold putU;rw [hN]
 rw [hP]
 obtain⟨L,hL⟩:∃L,put7 5 N=L:=⟨_,rfl⟩
 rw [hL]
 have HL:=Lib.hid hL
 clear hN hP hL hcl hclb
 go_enter Tryz.func38,Tryz.ntmps38
 go_wp2_with (first|(at_builtin;refine zu21 elB zn6 zb8 rfl (.const (.slice none 0 0)) (.tmp 6) rfl _ [] rfl ho0 A c ds rfl hs hz0 (Nat.le_refl _) ?_;intro v' w1 ho1 hb1)|(go_at_call 112;refine (clamp_any _ _ _ _ (by omega)).mono ?_;rintro e w2 ⟨rfl,rfl⟩;rw [HCL.out]))
 all_goals
  go_loopw [1,5] (fun q v wr=>∃(m f:Nat) (pre:List UInt8),q=.int .i64 m∧m≤2147483647∧m<128 ^ (f+1)∧pre.length+f≤5∧pre++put7 f m=L∧Own wr w.heap.size wr.heap.size 5 1 encB v (ds++pre)∧Below w.heap.size w wr) (fun q _ _=>(intOf q).toNat)
  case atStart =>
   exact⟨N,5,[],rfl,hNb,by omega,by simp,HL.out,by simpa using ho1,by0⟩
  case round =>
   obtain⟨m,f,pre,rfl,hm,hmf,hpf,hput,ho,hb⟩:=hrel
   obtain⟨A',c',rfl⟩:=ho.form
   have HP:=Lib.hid hput
   have HM:=Lib.hid hmf
   clear hput hmf
   have hzb:=hb.size
   have hl1:((ds++pre).length+1)*1≤140737488355328:=by simp;omega
   by_cases hlt:127<m
   ·have e3:((m:Int) % 128+128) % 256=(m:Int) % 128+128:=by omega
    have e4:=u8_cs (m % 128+128) (by omega) ((m:Int) % 128+128) (by omega)
    go_wp2_with (at_builtin;refine zx13 elB zn6 zb8 rfl (.tmp 12) (.tmp 17) rfl _ (ds++pre) (UInt8.ofNat (m % 128+128)) rfl ho (Nat.le_refl _) rfl e4 hl1 hzb ?_;intro v2 w2 ho2 hb2)
    go_roundw
    case rel =>
     obtain⟨f',rfl,h1,h2⟩:=zk19 hlt HM.out HP.out
     exact⟨m / 128,f',_,by go_num,by omega,h1,by simp;omega,h2,by rw [←List.append_assoc];exact ho2,hb.trans hb2⟩
    case measure=>simp [intOf];omega
   ·have e3:(m:Int) % 256=m:=by omega
    have e4:=u8_cs m (by omega) m rfl
    go_wp2_with (at_builtin;refine zx13 elB zn6 zb8 rfl (.tmp 21) (.tmp 24) rfl _ (ds++pre) (UInt8.ofNat m) rfl ho (Nat.le_refl _) rfl e4 hl1 hzb ?_;intro v2 w2 ho2 hb2)
    go_ret
    exact⟨v2,rfl,by rw [←put_end hlt HP.out,←List.append_assoc];exact ho2,hb.trans hb2⟩
def putIns (o n:Int):List UInt8:=putU o++if hasN o then putU n else []
theorem zl19:∀f n,(put7 f n).length≤f+1
 | 0,n=>by simp [put7]
 | f+1,n=>by
  rw [put7];split
  ·have:=zl19 f (n / 128);simp;omega
  ·simp
theorem zr3 (n:Int):(putU n).length≤6:=zl19 5 _
set_option maxRecDepth 100000 in
set_option maxHeartbeats 1000000 in
theorem zd13 (A:Option Addr)(ln c:Nat)(ds:List UInt8)(o n:Int)(w:World)(hs:Rd w 1 encB (.slice A ln c) ds)(hn:ds.length≤1048577) :
 Calls Tryz.prog 33 #[.slice A ln c,.agg #[.int .i64 o,.int .i64 n]] w fun e w'=>∃v,e=.returned v∧Own w' w.heap.size w'.heap.size 5 1 encB v (ds++putIns o n)∧Below w.heap.size w w':=by
 obtain rfl:=hs.len_eq
 have hl:=zr3 o
 have hs0:Rd (w.alloc (.cells #[.int .i64 o,.int .i64 n] 82)) 1 encB (.slice A ds.length c) ds:=hs.alloc _
 cases hh:hasN o
 ·have e:putIns o n=putU o:=by unfold putIns;rw [hh];simp
  rw [e]
  clear e
  go_enter Tryz.func33,Tryz.ntmps33
  go_wp2_with (first|(go_at_call 30;refine (zy6 _ _ _ ds _ _ hs0 by1).mono ?_;rintro e w1 ⟨v1,rfl,ho1,hb1⟩;have hza:=hb1.size;(try simp only [World.size_alloc,World.size_drew,World.size_setCell] at hza);have ka0:=blk hb1 (b:=w.heap.size) by1)|(go_at_call 99;refine (zo13 _ _).mono ?_;rintro e w2 ⟨rfl,rfl⟩))
  go_ret
  exact⟨v1,rfl,ho1.wider (by simp) (Nat.le_refl _),by0⟩
 ·have e:ds++putIns o n=(ds++putU o)++putU n:=by unfold putIns;rw [hh];simp
  rw [e]
  clear e
  go_enter Tryz.func33,Tryz.ntmps33
  go_wp2_with fail
  refine (zy6 _ _ _ ds _ _ hs0 by1).mono ?_;rintro e w1 ⟨v1,rfl,ho1,hb1⟩;obtain⟨A1,n1,c1,rfl,HN1⟩:=ho1.form';have hza:=hb1.size;(try simp only [World.size_alloc,World.size_drew,World.size_setCell] at hza);have ka0:=blk hb1 (b:=w.heap.size) by1
  go_wp2_with fail
  refine (zo13 _ _).mono ?_;rintro e w2 ⟨rfl,rfl⟩
  go_wp2_with fail
  refine (zy6 _ _ _ _ _ _ (ho1.rd zn6) (by simp;omega)).mono ?_;rintro e w3 ⟨v3,rfl,ho3,hb3⟩
  go_wp2_with fail
  go_ret
  have hz3:=hb3.size
  exact⟨v3,rfl,ho3.wider (by omega) (Nat.le_refl _),by0⟩
set_option maxRecDepth 100000 in
set_option maxHeartbeats 1000000 in
theorem ze13 (A:Option Addr)(ln c:Nat)(ds:List UInt8)(o n:Int)(w:World)(hs:Rd w 1 encB (.slice A ln c) ds)(hn:ds.length≤1048577) :
 Calls Tryz.prog 41 #[.slice A ln c,.agg #[.int .i64 o,.int .i64 n]] w fun e w'=>∃v,e=.returned v∧Own w' w.heap.size w'.heap.size 5 1 encB v (ds++putIns o n)∧Below w.heap.size w w':=by
 obtain rfl:=hs.len_eq
 have hl:=zr3 o
 have hs0:Rd (w.alloc (.cells #[.int .i64 o,.int .i64 n] 82)) 1 encB (.slice A ds.length c) ds:=hs.alloc _
 cases hh:hasN o
 ·have e:putIns o n=putU o:=by unfold putIns;rw [hh];simp
  rw [e]
  clear e
  go_enter Tryz.func41,Tryz.ntmps41
  go_wp2_with (first|(go_at_call 38;refine (zz6 _ _ _ ds _ _ hs0 by1).mono ?_;rintro e w1 ⟨v1,rfl,ho1,hb1⟩;have hza:=hb1.size;(try simp only [World.size_alloc,World.size_drew,World.size_setCell] at hza);have ka0:=blk hb1 (b:=w.heap.size) by1)|(go_at_call 114;refine (zz8 _ _).mono ?_;rintro e w2 ⟨rfl,rfl⟩))
  go_ret
  exact⟨v1,rfl,ho1.wider (by simp) (Nat.le_refl _),by0⟩
 ·have e:ds++putIns o n=(ds++putU o)++putU n:=by unfold putIns;rw [hh];simp
  rw [e]
  clear e
  go_enter Tryz.func41,Tryz.ntmps41
  go_wp2_with fail
  refine (zz6 _ _ _ ds _ _ hs0 by1).mono ?_;rintro e w1 ⟨v1,rfl,ho1,hb1⟩;obtain⟨A1,n1,c1,rfl,HN1⟩:=ho1.form';have hza:=hb1.size;(try simp only [World.size_alloc,World.size_drew,World.size_setCell] at hza);have ka0:=blk hb1 (b:=w.heap.size) by1
  go_wp2_with fail
  refine (zz8 _ _).mono ?_;rintro e w2 ⟨rfl,rfl⟩
  go_wp2_with fail
  refine (zz6 _ _ _ _ _ _ (ho1.rd zn6) (by simp;omega)).mono ?_;rintro e w3 ⟨v3,rfl,ho3,hb3⟩
  go_wp2_with fail
  go_ret
  have hz3:=hb3.size
  exact⟨v3,rfl,ho3.wider (by omega) (Nat.le_refl _),by0⟩
theorem r3 {a b a' b':Int}{c:Bool}(h1:a=a')(h2:b=b'):Ending.returned (.tuple #[.int .i64 a,.int .i64 b,.bool c])=.returned (.tuple #[.int .i64 a',.int .i64 b',.bool c]):=by rw [h1,h2]
structure GIns where
 o:Nat
 n:Nat
 p:Nat
 ok:Bool
set_option maxRecDepth 100000
theorem zm19 {w:World}{St:Nat→Prop}{φ:Nat→Lc}{K:Nat→Prop}:∀{bs:List UInt8} {us:List Value} {fp:List Nat},CRL w St φ K (bytC bs) us fp→us=bs.map fun b=>.int .u8 b.toNat
 | [],us,fp,h=>by
  have h':CRL w St φ K [] us fp:=h
  simp only [CRL] at h'
  exact h'.1
 | b :: r,us,fp,h=>by
  have h':CRL w St φ K (.v (.int .u8 b.toNat) :: bytC r) us fp:=h
  simp only [CRL] at h'
  obtain⟨u,us',f1,f2,rfl,rfl,h1,h2⟩:=h'
  simp only [CR] at h1
  obtain⟨rfl,-⟩:=h1
  rw [zm19 h2]
  rfl
theorem zn19 {w:World}{St:Nat→Prop}{φ:Nat→Lc}{K:Nat→Prop}:∀bs:List UInt8,CRL w St φ K (bytC bs) (bs.flatMap encB) []
 | []=>CRL.nil
 | b :: r=>by
  show CRL w St φ K (.v (.int .u8 b.toNat) :: bytC r) (.int .u8 b.toNat :: r.flatMap encB) ([]++[])
  exact CRL.cons (by simp only [CR];exact⟨trivial,rfl,trivial⟩) (zn19 r)
theorem zo19 {w:World}{St:Nat→Prop}{φ:Nat→Lc}{K:Nat→Prop}{u:Value}{bs:List UInt8}(h:VR w St φ K (.c (.ro bs.length 1 (bytC bs))) u):∃A c,u=.slice A bs.length c∧Rd w 1 encB (.slice A bs.length c) bs:=by
 simp only [VR,CR] at h
 obtain⟨-,A,c,rfl,⟨h1,h2,h3⟩,h4,h5⟩:=h
 refine⟨A,c,rfl,A,c,rfl,h1,⟨h2,h3⟩,fun hn=>?_⟩
 obtain⟨b,o,us,rfl,-,hlt,hc,hcr⟩:=h5 hn
 refine⟨b,o,rfl,Nat.zero_le _,hlt,fun i hi j u hu=>?_⟩
 have hus:=zm19 hcr
 have hj:j=0∧u=.int .u8 bs[i].toNat:=by
  cases j with
  | zero=>simp [encB] at hu;exact⟨rfl,hu.symm⟩
  | succ j=>simp [encB] at hu
 obtain⟨rfl,rfl⟩:=hj
 have:=hc i (.int .u8 bs[i].toNat) (by rw [hus,List.getElem?_map,List.getElem?_eq_getElem hi];rfl)
 rw [Nat.mul_one,Nat.add_zero]
 exact this
theorem za9 {P:Program}{f:FuncId}{ins:List AV}{T:TypeId}{out:List UInt8}(he:entB P f=true)
 (hc:∀(w:World) (St:Nat→Prop) (φ:Nat→Lc) (K:Nat→Prop) (us:List Value),VRL w St φ K ins us→Calls P f us.toArray w fun x w'=>∃v,x=.returned v∧Own w' w.heap.size w'.heap.size T 1 encB v out∧Below w.heap.size w w') :
 Ctr P f ins [] (.c (.ow T out.length 1 (bytC out))) []:=by
 refine⟨he,fun w St φ F us' hent=>?_⟩
 refine (hc w St φ _ us' hent.args).mono ?_
 rintro x w' ⟨v,rfl,ho,hb⟩
 have h0:w'.ownsRow 0 T 1 v out.length (out.flatMap encB)∧∀b∈obl v,w.heap.size≤b:=by
  obtain⟨⟨hl,h|⟨g,cap,cur,rfl,hg,hh⟩⟩,hB⟩:=ho
  ·refine⟨⟨hl,.inl h⟩,fun b hb=>?_⟩
   obtain⟨rfl,-⟩:=h
   simp [obl,Value.ownBlock] at hb
  ·refine⟨⟨hl,.inr ⟨g,cap,cur,rfl,Nat.zero_le _,hh⟩⟩,fun b hb=>?_⟩
   simp [obl,Value.ownBlock] at hb
   omega
 have hnd:(obl v).Nodup:=by
  unfold obl
  split<;>simp
 refine⟨_,_,v,fun _=>False,fun _=>[],obl v,⟨rfl,rfl⟩,rfl,⟨⟨hb.os,hb.tape,hb.output,hb.size,fun b hlt _=>.inl (hb.block b hlt)⟩,?_,hnd,rfl,fun i cs hi=>by simp at hi,fun i hi=>by simp at hi,fun i hi=>by simp at hi,fun i j hi=>by simp at hi,fun i b lo hi=>by simp at hi,fun b hb=>?_,fun b hb=>hb.elim⟩⟩
 ·simp only [VRF,CR]
  exact⟨_,[],zn19 out,h0.1,by simp⟩
 ·rcases hb with hb|⟨i,hi,_⟩
  ·exact .inr (h0.2 b hb)
  ·simp at hi
theorem zf5 {bs:List UInt8}(n:Int)(hn:bs.length≤1073741824):Ctr Tryz.prog 38 [.c (.ro bs.length 1 (bytC bs)),.c (.v (.int .i64 n))] [] (.c (.ow 5 (bs++putU n).length 1 (bytC (bs++putU n)))) []:=by
 refine za9 (by kernel_rfl) fun w St φ K us h=>?_
 simp only [VRL] at h
 obtain⟨u,us1,rfl,h1,u2,us2,rfl,h2,rfl⟩:=h
 obtain⟨A,c,rfl,hrd⟩:=zo19 h1
 simp only [VR,CR] at h2
 obtain⟨rfl,-⟩:=h2
 exact zz6 A bs.length c bs n w hrd hn
theorem zg5 {bs:List UInt8}(n:Int)(hn:bs.length≤1073741824):Ctr Tryz.prog 30 [.c (.ro bs.length 1 (bytC bs)),.c (.v (.int .i64 n))] [] (.c (.ow 5 (bs++putU n).length 1 (bytC (bs++putU n)))) []:=by
 refine za9 (by kernel_rfl) fun w St φ K us h=>?_
 simp only [VRL] at h
 obtain⟨u,us1,rfl,h1,u2,us2,rfl,h2,rfl⟩:=h
 obtain⟨A,c,rfl,hrd⟩:=zo19 h1
 simp only [VR,CR] at h2
 obtain⟨rfl,-⟩:=h2
 exact zy6 A bs.length c bs n w hrd hn
theorem zi16 {bs:List UInt8}(o n:Int)(hn:bs.length≤1048577):Ctr Tryz.prog 41 [.c (.ro bs.length 1 (bytC bs)),.ag [.v (.int .i64 o),.v (.int .i64 n)]] [] (.c (.ow 5 (bs++putIns o n).length 1 (bytC (bs++putIns o n)))) []:=by
 refine za9 (by kernel_rfl) fun w St φ K us h=>?_
 simp only [VRL] at h
 obtain⟨u,us1,rfl,h1,u2,us2,rfl,h2,rfl⟩:=h
 obtain⟨A,c,rfl,hrd⟩:=zo19 h1
 simp only [VR,CRL,CR] at h2
 obtain⟨vs,rfl,v1,r1,f1,f1',rfl,e1,⟨rfl,-,rfl⟩,v2,r2,f2,f2',rfl,rfl,⟨rfl,-,rfl⟩,rfl,-⟩:=h2
 exact ze13 A bs.length c bs o n w hrd hn
theorem zj16 {bs:List UInt8}(o n:Int)(hn:bs.length≤1048577):Ctr Tryz.prog 33 [.c (.ro bs.length 1 (bytC bs)),.ag [.v (.int .i64 o),.v (.int .i64 n)]] [] (.c (.ow 5 (bs++putIns o n).length 1 (bytC (bs++putIns o n)))) []:=by
 refine za9 (by kernel_rfl) fun w St φ K us h=>?_
 simp only [VRL] at h
 obtain⟨u,us1,rfl,h1,u2,us2,rfl,h2,rfl⟩:=h
 obtain⟨A,c,rfl,hrd⟩:=zo19 h1
 simp only [VR,CRL,CR] at h2
 obtain⟨vs,rfl,v1,r1,f1,f1',rfl,e1,⟨rfl,-,rfl⟩,v2,r2,f2,f2',rfl,rfl,⟨rfl,-,rfl⟩,rfl,-⟩:=h2
 exact zd13 A bs.length c bs o n w hrd hn
structure GVal where
 k:Int
 n:Int
 s:ByteArray
structure GCell where
 refs:Int
 v:GVal
end Go.Proofs.YtghljnfbbaklnaaGreat
namespace Go.Proofs.YtghljnfbbaklnaaGreat
open Go.RowKit
end Go.Proofs.YtghljnfbbaklnaaGreat
namespace Go.Proofs.YtghljnfbbaklnaaGreat
open Go.RowKit
def wrapI (n:Int):Int:=(n+2147483648) % 4294967296-2147483648
theorem and32 (n:Int):bits .and .i64 n 4294967295=n % 4294967296:=by
 have h1:(BitVec.ofInt 64 n).toNat=(n % 18446744073709551616).toNat:=by rw [BitVec.toNat_ofInt];rfl
 have h2:(BitVec.ofInt 64 4294967295).toNat=2 ^ 32-1:=by rfl
 show IntKind.i64.wrap ((BitVec.ofInt 64 n &&& BitVec.ofInt 64 4294967295).toNat:Int)=_
 rw [BitVec.toNat_and,h1,h2,Nat.and_two_pow_sub_one_eq_mod,IntKind.wrap_i64]
 omega
theorem zu7 (n:Int)(w:World)(h : -9223372036854775808≤n∧n≤9223372036854775807):Calls Tryz.prog 163 #[.int .i64 n] w fun e w'=>e=.returned (.int .i64 (wrapI n))∧w'=w:=by
 go_enter Tryz.func163,Tryz.ntmps163
 go_wp2
 go_ret
 exact⟨ri (by simp [wrapI,wrap64,wrap32];omega),rfl⟩
theorem zv7 (n:Int)(w:World)(h : -9223372036854775808≤n∧n≤9223372036854775807):Calls Tryz.prog 158 #[.int .i64 n] w fun e w'=>e=.returned (.int .i64 (wrapI n))∧w'=w:=by
 have h1:=and32 n
 have hw : -2147483648≤wrapI n∧wrapI n≤2147483647:=by unfold wrapI;omega
 by_cases h2:2147483647<n % 4294967296
 ·have e:wrapI n=n % 4294967296-4294967296:=by unfold wrapI;omega
  rw [e]
  clear e hw
  go_enter Tryz.func158,Tryz.ntmps158
  go_wp2
  go_ret
  exact⟨rfl,rfl⟩
 ·have e:wrapI n=n % 4294967296:=by unfold wrapI;omega
  rw [e]
  clear e hw
  go_enter Tryz.func158,Tryz.ntmps158
  go_wp2
  go_ret
  exact⟨rfl,rfl⟩
def valOk (a b:Int)(s:ByteArray):Bool:=if a=0 then b==0&&s.toList.isEmpty else if a=1 then b==wrapI b&&s.toList.isEmpty else if a=2 then b==0&&decide (s.size≤200) else false
theorem zn8 {s:ByteArray}(h:s.toList=[]):s=⟨#[]⟩:=by
 rw [ByteArray.toList_eq] at h
 obtain⟨⟨l⟩⟩:=s
 simp at h
 subst h
 rfl
theorem valOk0:valOk 0 0 ⟨#[]⟩=true:=by
 have:(ByteArray.mk #[]).toList=[]:=by rw [ByteArray.toList_eq]
 simp [valOk,this]
set_option maxHeartbeats 1000000 in
theorem zo14 (a b:Int)(s:ByteArray)(w:World)(h : -9223372036854775808≤b∧b≤9223372036854775807):Calls Tryz.prog 105 #[.agg #[.int .i64 a,.int .i64 b,.string s]] w fun e w'=>e=.returned (.bool (valOk a b s))∧Below w.heap.size w w':=by
 by_cases ha:a=0
 ·subst ha
  by_cases hb:b=0
  ·subst hb
   by_cases hs:s.toList=[]
   ·obtain rfl:=zn8 hs
    rw [valOk0]
    clear hs
    go_enter Tryz.func105,Tryz.ntmps105
    go_wp2
    go_ret
    exact⟨rfl,by0⟩
   ·have hs1:s.toList.isEmpty=false:=by simpa using hs
    have hs2:(s.toList==[])=false:=by simpa using hs
    have e:valOk 0 0 s=false:=by simp [valOk,hs1]
    rw [e]
    clear e hs
    go_enter Tryz.func105,Tryz.ntmps105
    go_wp2
    go_ret
    exact⟨rfl,by0⟩
  ·have hb1:(b==0)=false:=by simpa using hb
   have e:valOk 0 b s=false:=by simp [valOk,hb]
   rw [e]
   clear e hb
   go_enter Tryz.func105,Tryz.ntmps105
   go_wp2
   go_ret
   exact⟨rfl,by0⟩
 ·by_cases ha1:a=1
  ·subst ha1
   by_cases hb:b=wrapI b
   ·have hb1:(b==wrapI b)=true:=by simpa using hb
    have hb2:(wrapI b==b)=true:=by simpa using hb.symm
    have e:valOk 1 b s=s.toList.isEmpty:=by simp [valOk,←hb]
    rw [e]
    clear e hb
    go_enter Tryz.func105,Tryz.ntmps105
    go_wp2
    go_quiet ((go_at_call 163;exact Calls.quiet_of_same (zu7 _ _ h)))
    go_wp2
    go_ret
    exact⟨rfl,by0⟩
   ·have hb1:(b==wrapI b)=false:=by simpa using hb
    have hb2:(wrapI b==b)=false:=by simpa using fun e=>hb e.symm
    have e:valOk 1 b s=false:=by simp [valOk,hb]
    rw [e]
    clear e hb
    go_enter Tryz.func105,Tryz.ntmps105
    go_wp2
    go_quiet ((go_at_call 163;exact Calls.quiet_of_same (zu7 _ _ h)))
    go_wp2
    go_ret
    exact⟨rfl,by0⟩
  ·by_cases ha2:a=2
   ·subst ha2
    by_cases hb:b=0
    ·subst hb
     by_cases hs:s.size≤200
     ·have hs1:(s.size:Int)≤200:=by omega
      have e:valOk 2 0 s=true:=by simp [valOk,hs]
      rw [e]
      clear e hs
      go_enter Tryz.func105,Tryz.ntmps105
      go_wp2
      go_ret
      exact⟨rfl,by0⟩
     ·have hs1:¬(s.size:Int)≤200:=by omega
      have e:valOk 2 0 s=false:=by simp [valOk];omega
      rw [e]
      clear e hs
      go_enter Tryz.func105,Tryz.ntmps105
      go_wp2
      go_ret
      exact⟨rfl,by0⟩
    ·have hb1:(b==0)=false:=by simpa using hb
     have e:valOk 2 b s=false:=by simp [valOk,hb]
     rw [e]
     clear e hb
     go_enter Tryz.func105,Tryz.ntmps105
     go_wp2
     all_goals (go_ret;exact⟨rfl,by0⟩)
   ·have h0:(a==0)=false:=by simpa using ha
    have h1:(a==1)=false:=by simpa using ha1
    have h2:(a==2)=false:=by simpa using ha2
    have e:valOk a b s=false:=by simp [valOk,ha,ha1,ha2]
    rw [e]
    clear e ha ha1 ha2
    go_enter Tryz.func105,Tryz.ntmps105
    go_wp2
    go_ret
    exact⟨rfl,by0⟩
set_option maxHeartbeats 1000000 in
theorem zp14 (a b:Int)(s:ByteArray)(w:World)(h : -9223372036854775808≤b∧b≤9223372036854775807):Calls Tryz.prog 94 #[.agg #[.int .i64 a,.int .i64 b,.string s]] w fun e w'=>e=.returned (.bool (valOk a b s))∧Below w.heap.size w w':=by
 by_cases ha:a=0
 ·subst ha
  by_cases hb:b=0
  ·subst hb
   by_cases hs:s.toList=[]
   ·obtain rfl:=zn8 hs
    rw [valOk0]
    clear hs
    go_enter Tryz.func94,Tryz.ntmps94
    go_wp2
    go_ret
    exact⟨rfl,by0⟩
   ·have hs1:s.toList.isEmpty=false:=by simpa using hs
    have hs2:(s.toList==[])=false:=by simpa using hs
    have e:valOk 0 0 s=false:=by simp [valOk,hs1]
    rw [e]
    clear e hs
    go_enter Tryz.func94,Tryz.ntmps94
    go_wp2
    go_ret
    exact⟨rfl,by0⟩
  ·have hb1:(b==0)=false:=by simpa using hb
   have e:valOk 0 b s=false:=by simp [valOk,hb]
   rw [e]
   clear e hb
   go_enter Tryz.func94,Tryz.ntmps94
   go_wp2
   go_ret
   exact⟨rfl,by0⟩
 ·by_cases ha1:a=1
  ·subst ha1
   by_cases hb:b=wrapI b
   ·have hb1:(b==wrapI b)=true:=by simpa using hb
    have hb2:(wrapI b==b)=true:=by simpa using hb.symm
    have e:valOk 1 b s=s.toList.isEmpty:=by simp [valOk,←hb]
    rw [e]
    clear e hb
    go_enter Tryz.func94,Tryz.ntmps94
    go_wp2
    go_quiet ((go_at_call 158;exact Calls.quiet_of_same (zv7 _ _ h)))
    go_wp2
    go_ret
    exact⟨rfl,by0⟩
   ·have hb1:(b==wrapI b)=false:=by simpa using hb
    have hb2:(wrapI b==b)=false:=by simpa using fun e=>hb e.symm
    have e:valOk 1 b s=false:=by simp [valOk,hb]
    rw [e]
    clear e hb
    go_enter Tryz.func94,Tryz.ntmps94
    go_wp2
    go_quiet ((go_at_call 158;exact Calls.quiet_of_same (zv7 _ _ h)))
    go_wp2
    go_ret
    exact⟨rfl,by0⟩
  ·by_cases ha2:a=2
   ·subst ha2
    by_cases hb:b=0
    ·subst hb
     by_cases hs:s.size≤200
     ·have hs1:(s.size:Int)≤200:=by omega
      have e:valOk 2 0 s=true:=by simp [valOk,hs]
      rw [e]
      clear e hs
      go_enter Tryz.func94,Tryz.ntmps94
      go_wp2
      go_ret
      exact⟨rfl,by0⟩
     ·have hs1:¬(s.size:Int)≤200:=by omega
      have e:valOk 2 0 s=false:=by simp [valOk];omega
      rw [e]
      clear e hs
      go_enter Tryz.func94,Tryz.ntmps94
      go_wp2
      go_ret
      exact⟨rfl,by0⟩
    ·have hb1:(b==0)=false:=by simpa using hb
     have e:valOk 2 b s=false:=by simp [valOk,hb]
     rw [e]
     clear e hb
     go_enter Tryz.func94,Tryz.ntmps94
     go_wp2
     all_goals (go_ret;exact⟨rfl,by0⟩)
   ·have h0:(a==0)=false:=by simpa using ha
    have h1:(a==1)=false:=by simpa using ha1
    have h2:(a==2)=false:=by simpa using ha2
    have e:valOk a b s=false:=by simp [valOk,ha,ha1,ha2]
    rw [e]
    clear e ha ha1 ha2
    go_enter Tryz.func94,Tryz.ntmps94
    go_wp2
    go_ret
    exact⟨rfl,by0⟩
end Go.Proofs.YtghljnfbbaklnaaGreat
