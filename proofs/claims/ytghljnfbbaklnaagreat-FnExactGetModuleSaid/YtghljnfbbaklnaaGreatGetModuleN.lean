/- HeldOf, ValOk, HeapOk of both sides. -/
import Derived.Test.YtghljnfbbaklnaaGreatGetModuleM
namespace Go.Proofs.YtghljnfbbaklnaaGreat
open Go.RowKit
def wrapI (n:Int):Int:=(n+2147483648) % 4294967296-2147483648
theorem and32 (n:Int):bits .and .i64 n 4294967295=n % 4294967296:=by
 have h1:(BitVec.ofInt 64 n).toNat=(n % 18446744073709551616).toNat:=by rw [BitVec.toNat_ofInt];rfl
 have h2:(BitVec.ofInt 64 4294967295).toNat=2 ^ 32-1:=by rfl
 show IntKind.i64.wrap ((BitVec.ofInt 64 n &&& BitVec.ofInt 64 4294967295).toNat:Int)=_
 rw [BitVec.toNat_and,h1,h2,Nat.and_two_pow_sub_one_eq_mod,IntKind.wrap_i64]
 omega
theorem zl6 (n:Int)(w:World)(h : -9223372036854775808≤n∧n≤9223372036854775807):Calls Tryz.prog 163 #[.int .i64 n] w fun e w'=>e=.returned (.int .i64 (wrapI n))∧w'=w:=by
 go_enter Tryz.func163,Tryz.ntmps163
 go_wp2
 go_ret
 exact⟨ri (by simp [wrapI,wrap64,wrap32];omega),rfl⟩
theorem zm6 (n:Int)(w:World)(h : -9223372036854775808≤n∧n≤9223372036854775807):Calls Tryz.prog 158 #[.int .i64 n] w fun e w'=>e=.returned (.int .i64 (wrapI n))∧w'=w:=by
 have h1:=and32 n
 have hw : -2147483648≤wrapI n∧wrapI n≤2147483647:=by unfold wrapI;omega
 by_cases h2:2147483647<n % 4294967296
 ·have e:wrapI n=n % 4294967296-4294967296:=by unfold wrapI;omega
  rw [e]
  clear e hw
  go_enter Tryz.func158,Tryz.ntmps158
  go_wp2
  go_ret
  exact⟨rfl,rfl⟩
 ·have e:wrapI n=n % 4294967296:=by unfold wrapI;omega
  rw [e]
  clear e hw
  go_enter Tryz.func158,Tryz.ntmps158
  go_wp2
  go_ret
  exact⟨rfl,rfl⟩
def valOk (a b:Int)(s:ByteArray):Bool:=if a=0 then b==0&&s.toList.isEmpty else if a=1 then b==wrapI b&&s.toList.isEmpty else if a=2 then b==0&&decide (s.size≤200) else false
theorem zu10 {s:ByteArray}(h:s.toList=[]):s=⟨#[]⟩:=by
 rw [ByteArray.toList_eq] at h
 obtain⟨⟨l⟩⟩:=s
 simp at h
 subst h
 rfl
theorem valOk0:valOk 0 0 ⟨#[]⟩=true:=by
 have:(ByteArray.mk #[]).toList=[]:=by rw [ByteArray.toList_eq]
 simp [valOk,this]
set_option maxHeartbeats 1000000 in
theorem zt7 (a b:Int)(s:ByteArray)(w:World)(h : -9223372036854775808≤b∧b≤9223372036854775807):Calls Tryz.prog 105 #[.agg #[.int .i64 a,.int .i64 b,.string s]] w fun e w'=>e=.returned (.bool (valOk a b s))∧Below w.heap.size w w':=by
 by_cases ha:a=0
 ·subst ha
  by_cases hb:b=0
  ·subst hb
   by_cases hs:s.toList=[]
   ·obtain rfl:=zu10 hs
    rw [valOk0]
    clear hs
    go_enter Tryz.func105,Tryz.ntmps105
    go_wp2
    go_ret
    exact⟨rfl,by0⟩
   ·have hs1:s.toList.isEmpty=false:=by simpa using hs
    have hs2:(s.toList==[])=false:=by simpa using hs
    have e:valOk 0 0 s=false:=by simp [valOk,hs1]
    rw [e]
    clear e hs
    go_enter Tryz.func105,Tryz.ntmps105
    go_wp2
    go_ret
    exact⟨rfl,by0⟩
  ·have hb1:(b==0)=false:=by simpa using hb
   have e:valOk 0 b s=false:=by simp [valOk,hb]
   rw [e]
   clear e hb
   go_enter Tryz.func105,Tryz.ntmps105
   go_wp2
   go_ret
   exact⟨rfl,by0⟩
 ·by_cases ha1:a=1
  ·subst ha1
   by_cases hb:b=wrapI b
   ·have hb1:(b==wrapI b)=true:=by simpa using hb
    have hb2:(wrapI b==b)=true:=by simpa using hb.symm
    have e:valOk 1 b s=s.toList.isEmpty:=by simp [valOk,←hb]
    rw [e]
    clear e hb
    go_enter Tryz.func105,Tryz.ntmps105
    go_wp2
    go_quiet ((go_at_call 163;exact Calls.quiet_of_same (zl6 _ _ h)))
    go_wp2
    go_ret
    exact⟨rfl,by0⟩
   ·have hb1:(b==wrapI b)=false:=by simpa using hb
    have hb2:(wrapI b==b)=false:=by simpa using fun e=>hb e.symm
    have e:valOk 1 b s=false:=by simp [valOk,hb]
    rw [e]
    clear e hb
    go_enter Tryz.func105,Tryz.ntmps105
    go_wp2
    go_quiet ((go_at_call 163;exact Calls.quiet_of_same (zl6 _ _ h)))
    go_wp2
    go_ret
    exact⟨rfl,by0⟩
  ·by_cases ha2:a=2
   ·subst ha2
    by_cases hb:b=0
    ·subst hb
     by_cases hs:s.size≤200
     ·have hs1:(s.size:Int)≤200:=by omega
      have e:valOk 2 0 s=true:=by simp [valOk,hs]
      rw [e]
      clear e hs
      go_enter Tryz.func105,Tryz.ntmps105
      go_wp2
      go_ret
      exact⟨rfl,by0⟩
     ·have hs1:¬(s.size:Int)≤200:=by omega
      have e:valOk 2 0 s=false:=by simp [valOk];omega
      rw [e]
      clear e hs
      go_enter Tryz.func105,Tryz.ntmps105
      go_wp2
      go_ret
      exact⟨rfl,by0⟩
    ·have hb1:(b==0)=false:=by simpa using hb
     have e:valOk 2 b s=false:=by simp [valOk,hb]
     rw [e]
     clear e hb
     go_enter Tryz.func105,Tryz.ntmps105
     go_wp2
     all_goals (go_ret;exact⟨rfl,by0⟩)
   ·have h0:(a==0)=false:=by simpa using ha
    have h1:(a==1)=false:=by simpa using ha1
    have h2:(a==2)=false:=by simpa using ha2
    have e:valOk a b s=false:=by simp [valOk,ha,ha1,ha2]
    rw [e]
    clear e ha ha1 ha2
    go_enter Tryz.func105,Tryz.ntmps105
    go_wp2
    go_ret
    exact⟨rfl,by0⟩
set_option maxHeartbeats 1000000 in
theorem zu7 (a b:Int)(s:ByteArray)(w:World)(h : -9223372036854775808≤b∧b≤9223372036854775807):Calls Tryz.prog 94 #[.agg #[.int .i64 a,.int .i64 b,.string s]] w fun e w'=>e=.returned (.bool (valOk a b s))∧Below w.heap.size w w':=by
 by_cases ha:a=0
 ·subst ha
  by_cases hb:b=0
  ·subst hb
   by_cases hs:s.toList=[]
   ·obtain rfl:=zu10 hs
    rw [valOk0]
    clear hs
    go_enter Tryz.func94,Tryz.ntmps94
    go_wp2
    go_ret
    exact⟨rfl,by0⟩
   ·have hs1:s.toList.isEmpty=false:=by simpa using hs
    have hs2:(s.toList==[])=false:=by simpa using hs
    have e:valOk 0 0 s=false:=by simp [valOk,hs1]
    rw [e]
    clear e hs
    go_enter Tryz.func94,Tryz.ntmps94
    go_wp2
    go_ret
    exact⟨rfl,by0⟩
  ·have hb1:(b==0)=false:=by simpa using hb
   have e:valOk 0 b s=false:=by simp [valOk,hb]
   rw [e]
   clear e hb
   go_enter Tryz.func94,Tryz.ntmps94
   go_wp2
   go_ret
   exact⟨rfl,by0⟩
 ·by_cases ha1:a=1
  ·subst ha1
   by_cases hb:b=wrapI b
   ·have hb1:(b==wrapI b)=true:=by simpa using hb
    have hb2:(wrapI b==b)=true:=by simpa using hb.symm
    have e:valOk 1 b s=s.toList.isEmpty:=by simp [valOk,←hb]
    rw [e]
    clear e hb
    go_enter Tryz.func94,Tryz.ntmps94
    go_wp2
    go_quiet ((go_at_call 158;exact Calls.quiet_of_same (zm6 _ _ h)))
    go_wp2
    go_ret
    exact⟨rfl,by0⟩
   ·have hb1:(b==wrapI b)=false:=by simpa using hb
    have hb2:(wrapI b==b)=false:=by simpa using fun e=>hb e.symm
    have e:valOk 1 b s=false:=by simp [valOk,hb]
    rw [e]
    clear e hb
    go_enter Tryz.func94,Tryz.ntmps94
    go_wp2
    go_quiet ((go_at_call 158;exact Calls.quiet_of_same (zm6 _ _ h)))
    go_wp2
    go_ret
    exact⟨rfl,by0⟩
  ·by_cases ha2:a=2
   ·subst ha2
    by_cases hb:b=0
    ·subst hb
     by_cases hs:s.size≤200
     ·have hs1:(s.size:Int)≤200:=by omega
      have e:valOk 2 0 s=true:=by simp [valOk,hs]
      rw [e]
      clear e hs
      go_enter Tryz.func94,Tryz.ntmps94
      go_wp2
      go_ret
      exact⟨rfl,by0⟩
     ·have hs1:¬(s.size:Int)≤200:=by omega
      have e:valOk 2 0 s=false:=by simp [valOk];omega
      rw [e]
      clear e hs
      go_enter Tryz.func94,Tryz.ntmps94
      go_wp2
      go_ret
      exact⟨rfl,by0⟩
    ·have hb1:(b==0)=false:=by simpa using hb
     have e:valOk 2 b s=false:=by simp [valOk,hb]
     rw [e]
     clear e hb
     go_enter Tryz.func94,Tryz.ntmps94
     go_wp2
     all_goals (go_ret;exact⟨rfl,by0⟩)
   ·have h0:(a==0)=false:=by simpa using ha
    have h1:(a==1)=false:=by simpa using ha1
    have h2:(a==2)=false:=by simpa using ha2
    have e:valOk a b s=false:=by simp [valOk,ha,ha1,ha2]
    rw [e]
    clear e ha ha1 ha2
    go_enter Tryz.func94,Tryz.ntmps94
    go_wp2
    go_ret
    exact⟨rfl,by0⟩
end Go.Proofs.YtghljnfbbaklnaaGreat
-- BIT
namespace Go.Proofs.YtghljnfbbaklnaaGreat
open Go.RowKit
set_option maxRecDepth 100000
def b8 (n:Int):UInt8:=UInt8.ofNat n.toNat
def sGo:Nat→Int→List UInt8
 | 0,n=>[b8 (n % 128)]
 | f+1,n=>if -64≤n∧n≤63 then [b8 (n % 128)] else b8 (n % 128+128) :: sGo f (n / 128)
def putS (n:Int):List UInt8:=sGo 5 (wrapI n)
def sIn (f:Nat)(n:Int):Prop := -(64*128 ^ f)≤n∧n<64*128 ^ f
theorem zx9 {f:Nat}{n:Int}(h:sIn (f+1) n):sIn f (n / 128):=by
 unfold sIn at *
 rw [Int.pow_succ] at h
 generalize (128:Int) ^ f=q at *
 omega
theorem zy9 (n:Int):sIn 5 (wrapI n):=by unfold sIn wrapI;omega
theorem zb19 {f:Nat}{n:Int}(h : -64≤n∧n≤63):sGo f n=[b8 (n % 128)]:=by
 cases f with
 | zero=>rfl
 | succ f=>unfold sGo;rw [if_pos h]
theorem zc19 {f:Nat}{n:Int}(h:¬(-64≤n∧n≤63))(hi:sIn f n):∃g,f=g+1∧sGo f n=b8 (n % 128+128) :: sGo g (n / 128):=by
 cases f with
 | zero=>unfold sIn at hi;simp at hi;omega
 | succ g=>exact⟨g,rfl,by rw [sGo,if_neg h]⟩
theorem zw1:∀bs:List UInt8,cloL (bytC bs)=true
 | []=>rfl
 | b :: r=>by
  show (true&&cloL (bytC r))=true
  rw [zw1 r];rfl
theorem u8b {x:Int}(h0:0≤x)(h1:x<256):IntKind.u8.wrap x=((b8 x).toNat:Int):=by
 rw [IntKind.wrap_u8]
 unfold b8
 rw [UInt8.toNat_ofNat']
 omega
theorem zv7 (acc:List UInt8)(b:UInt8):bytC (acc++[b])=bytC acc++[.v (.int .u8 (b.toNat:Int))]:=by simp [bytC]
theorem sh7 (n:Int):n.fdiv (2 ^ Int.toNat 7)=n / 128:=by rw [Int.fdiv_eq_ediv_of_nonneg _ (by decide)];rfl
theorem zl17 {n:Int}(hn : -9223372036854775808≤n∧n≤9223372036854775807):Ctr Tryz.prog 163 [.c (.v (.int .i64 n))] [] (.c (.v (.int .i64 (wrapI n)))) []:=by
 refine zb4 (us:=[.int .i64 n]) (by kernel_rfl) rfl (fun w St φ K us' h=>?_) fun w=>(zl6 n w hn).mono fun e w' h=>⟨h.1,by obtain⟨-,rfl⟩:=h;exact Below.refl _ _⟩
 simp only [VRL,VR,CR] at h
 obtain⟨u,us1,rfl,⟨rfl,-⟩,rfl⟩:=h
 rfl
theorem zf7 {n:Int}(hn : -9223372036854775808≤n∧n≤9223372036854775807):Ctr Tryz.prog 158 [.c (.v (.int .i64 n))] [] (.c (.v (.int .i64 (wrapI n)))) []:=by
 refine zb4 (us:=[.int .i64 n]) (by kernel_rfl) rfl (fun w St φ K us' h=>?_) fun w=>(zm6 n w hn).mono fun e w' h=>⟨h.1,by obtain⟨-,rfl⟩:=h;exact Below.refl _ _⟩
 simp only [VRL,VR,CR] at h
 obtain⟨u,us1,rfl,⟨rfl,-⟩,rfl⟩:=h
 rfl
theorem zd19 {cs:List AC}{k:Nat}{out:List UInt8}(h:cs=bytC out)(hk:k=out.length):(.c (.ow 5 k 1 cs):AV)=.c (.ow 5 out.length 1 (bytC out)):=by rw [h,hk]
theorem zq12 {bs:List UInt8}{n:Int}(hn : -9223372036854775808≤n∧n≤9223372036854775807)(hl:bs.length≤1073741824):Ctr Tryz.prog 98 [.c (.ro bs.length 1 (bytC bs)),.c (.v (.int .i64 n))] [] (.c (.ow 5 (bs++putS n).length 1 (bytC (bs++putS n)))) []:=by
 have cw:=zf7 hn
 refine zi1 Tryz.func98 rfl rfl ?_
 repeat' (first|(apply f_wo;first|(apply f_mv;refine zt (v:=.c _) ?_)|(apply f_as;refine zu (v:=.c _) ?_)|(apply f_ca;refine zu1 cw ?_)|(apply f_bi;refine zi6 (hnu:=zk15 _) ?_)|refine n_bs ?_)|(apply f_w;first|refine zo ?_|refine zc ?_)|refine za fun C=>?_|refine zd ?_|refine zg ?_)
 refine zt1 (fun d:Int×List UInt8×Nat=>⟨tmsF [(1,.c (.v (.int .i64 d.1))),(5,.c (.sl 8 d.2.2))],hpsF [(8,8,⟨5,1,d.2.2,false,bytC d.2.1⟩)],0,[8],32⟩)
  (fun f d=>d.2.1++sGo f d.1=bs++putS n∧(sIn f d.1∧f≤5)∧d.2.2=d.2.1.length∧d.2.2≤1073741824+5-f) 5 (wrapI n,bs,bs.length) ⟨rfl,⟨zy9 n,by omega⟩,rfl,by dsimp only;omega⟩ ?_ ?_
 ·(refine zk1 _ _ rfl rfl ?_ ?_<;>(repeat' (first|exact TmOk.nil|exact RwOk.nil|refine TmOk.cons ?_ ?_|refine RwOk.cons ?_ ?_|rfl|exact zv rfl (by assumption)|exact zv rfl (zw1 _)|(refine rnV_id' rfl ?_;exact byc)|(refine zo1 ?_;first|rfl|omega|(rw [za1 (by omega) (by omega)];omega))|(refine zv rfl ?_;exact byc)|exact zg2 rfl rfl|(refine zp1 (by rfl) (by rfl) ?_ ?_<;>exact byc)|(refine rw_rn' rfl rfl ?_;simp;done))))
 rintro f ⟨m,acc,k⟩ ⟨hE,⟨hI,h5⟩,hk,hA⟩
 dsimp only at hE hI hk hA ⊢
 by_cases hm : -64≤m∧m≤63
 ·rw [zb19 hm] at hE
  have hrow:bytC acc++[.v (.int .u8 (IntKind.u8.wrap (bits .and .i64 m 127)))]=bytC (bs++putS n):=by rw [zp5,u8b (by omega) (by omega),←zv7,hE]
  have hkl:k+1=(bs++putS n).length:=by rw [←hE,List.length_append,hk];rfl
  repeat' (first|(apply f_wo;first|(apply f_gs;refine n_sk ?_)|(apply f_mv;first|(refine zs1 ?_ ?_<;>intro hG<;>(try cases hG))|refine zt (v:=.c _) ?_)|(apply zw2;refine zf1 ?_)|(apply zi4;refine zh2 ?_)|(apply f_pk;refine zr1 (v:=.c _) ?_))|(apply f_w;first|refine zo ?_|refine zc ?_)|refine za fun C=>?_|refine zd ?_)
  all_goals first
   | (exfalso;simp only [decide_eq_true_iff,decide_eq_false_iff_not] at hG;omega)
   | skip
  refine zn (by rfl) (fun hC=>absurd (of_decide_eq_true hC) (by omega)) fun hC=>?_
  repeat' (first|(apply f_wo;first|(apply f_mv;refine zt (v:=.c _) ?_)|(apply f_as;refine zu (v:=.c _) ?_)|(apply f_bi;refine zi6 ?_)|(apply f_bb;refine zn15 ?_)|(apply f_cv;refine zh1 ?_)|refine n_bs ?_)|(apply f_w;first|refine zo ?_|refine zc ?_)|refine za fun C=>?_|refine zd ?_|refine zw ?_)
  refine zi ?_
  exact ret0 rfl (zo20 (zl1 (rw:=⟨5,1,k+1,false,bytC acc++[.v (.int .u8 (IntKind.u8.wrap (bits .and .i64 m 127)))]⟩) rfl rfl rfl (by rw [hrow];exact zw1 _) ze1)) ⟨zd19 hrow hkl,rfl⟩
 ·obtain⟨g,rfl,hg⟩:=zc19 hm hI
  rw [hg] at hE
  have hI2:=zx9 hI
  have h64 : -2199023255552≤m∧m≤2199023255552:=by
   unfold sIn at hI
   have:(128:Int) ^ (g+1)≤128 ^ 5:=by
    rcases (show g=0∨g=1∨g=2∨g=3∨g=4 by omega) with rfl|rfl|rfl|rfl|rfl<;>decide
   generalize (128:Int) ^ (g+1)=q at *
   omega
  have hrow:bytC acc++[.v (.int .u8 (IntKind.u8.wrap (bits .or .i64 (bits .and .i64 m 127) 128)))]=bytC (acc++[b8 (m % 128+128)]):=by rw [zp5,or128 _ (by omega) (by omega),u8b (by omega) (by omega),←zv7]
  repeat' (first|(apply f_wo;first|(apply f_gs;refine n_sk ?_)|(apply f_mv;first|(refine zs1 ?_ ?_<;>intro hG<;>(try cases hG))|refine zt (v:=.c _) ?_)|(apply zw2;refine zf1 ?_)|(apply zi4;refine zh2 ?_)|(apply f_pk;refine zr1 (v:=.c _) ?_))|(apply f_w;first|refine zo ?_|refine zc ?_)|refine za fun C=>?_|refine zd ?_)
  all_goals first
   | (refine zq rfl ?_)
   | (refine zn (by rfl) (fun hC=>?_) fun hC=>absurd (of_decide_eq_false hC) (by simp only [decide_eq_true_iff,decide_eq_false_iff_not] at hG;omega))
  all_goals
   repeat' (first|(apply f_wo;first|(apply f_mv;refine zt (v:=.c _) ?_)|(apply f_as;refine zu (v:=.c _) ?_)|(apply f_bi;refine zi6 ?_)|(apply f_bb;first|refine zn15 ?_|refine n_shr ?_)|(apply f_cv;refine zh1 ?_)|refine n_bs ?_)|(apply f_w;first|refine zo ?_|refine zc ?_)|refine za fun C=>?_|refine zd ?_|refine zg ?_|refine zk ?_)
   refine⟨g,(m / 128,acc++[b8 (m % 128+128)],k+1),by omega,⟨by dsimp only;rw [←hE];simp,⟨hI2,by omega⟩,by simp [hk],by dsimp only;omega⟩,?_⟩
   (refine zf4 (fun j=>if j=8 then 23 else j) _ _ rfl rfl ?_ ?_<;>(repeat' (first|exact TmOk.nil|exact RwOk.nil|refine TmOk.cons ?_ ?_|refine RwOk.cons ?_ ?_|rfl|exact zv rfl (by assumption)|exact zv rfl (zw1 _)|(refine rnV_id' rfl ?_;exact byc)|(refine zo1 ?_;first|rfl|omega|(rw [za1 (by omega) (by omega)];omega))|(refine zv rfl ?_;exact byc)|exact zg2 rfl rfl|(refine zp1 (by rfl) (by rfl) ?_ ?_<;>exact byc)|(refine rw_rn' rfl rfl ?_;simp;done))))
  all_goals first
   | exact zo1 (sh7 m)
   | exact zd7 (r:=⟨5,1,k+1,false,bytC acc++[.v (.int .u8 (IntKind.u8.wrap (bits .or .i64 (bits .and .i64 m 127) 128)))]⟩) rfl (by rw [hrow]) (zw1 _)
set_option maxHeartbeats 1000000 in
theorem zr12 {bs:List UInt8}{n:Int}(hn : -9223372036854775808≤n∧n≤9223372036854775807)(hl:bs.length≤1073741824):Ctr Tryz.prog 113 [.c (.ro bs.length 1 (bytC bs)),.c (.v (.int .i64 n))] [] (.c (.ow 5 (bs++putS n).length 1 (bytC (bs++putS n)))) []:=by
 have cw:=zl17 hn
 refine zi1 Tryz.func113 rfl rfl ?_
 repeat' (first|(apply f_wo;first|(apply f_mv;refine zt (v:=.c _) ?_)|(apply f_as;refine zu (v:=.c _) ?_)|(apply f_ca;refine zu1 cw ?_)|(apply f_bi;refine n_app0 (hnu:=zk15 _) ?_))|(apply f_w;first|refine zo ?_|refine zc ?_)|refine za fun C=>?_|refine zd ?_|refine zg ?_)
 refine zt1 (fun d:Int×List UInt8×Nat=>⟨tmsF [(1,.c (.v (.int .i64 d.1))),(5,.c (.sl 8 d.2.2))],hpsF [(8,8,⟨5,1,d.2.2,false,bytC d.2.1⟩)],0,[8],40⟩)
  (fun f d=>d.2.1++sGo f d.1=bs++putS n∧(sIn f d.1∧f≤5)∧d.2.2=d.2.1.length∧d.2.2≤1073741824+5-f) 5 (wrapI n,bs,bs.length) ⟨rfl,⟨zy9 n,by omega⟩,rfl,by dsimp only;omega⟩ ?_ ?_
 ·(refine zk1 _ _ rfl rfl ?_ ?_<;>(repeat' (first|exact TmOk.nil|exact RwOk.nil|refine TmOk.cons ?_ ?_|refine RwOk.cons ?_ ?_|rfl|exact zv rfl (by assumption)|exact zv rfl (zw1 _)|(refine rnV_id' rfl ?_;exact byc)|(refine zo1 ?_;first|rfl|omega|(rw [za1 (by omega) (by omega)];omega))|(refine zv rfl ?_;exact byc)|exact zg2 rfl rfl|(refine zp1 (by rfl) (by rfl) ?_ ?_<;>exact byc)|(refine rw_rn' rfl rfl ?_;simp;done))))
 rintro f ⟨m,acc,k⟩ ⟨hE,⟨hI,h5⟩,hk,hA⟩
 dsimp only at hE hI hk hA ⊢
 clear cw
 by_cases hm : -64≤m∧m≤63
 ·rw [zb19 hm] at hE
  have hrow:bytC acc++[.v (.int .u8 (IntKind.u8.wrap (bits .and .i64 m 127)))]=bytC (bs++putS n):=by rw [zp5,u8b (by omega) (by omega),←zv7,hE]
  have hkl:k+1=(bs++putS n).length:=by rw [←hE,List.length_append,hk];rfl
  repeat' (first|(apply f_wo;first|(apply f_gs;refine n_sk ?_)|(apply f_mv;first|(refine zs1 ?_ ?_<;>intro hG<;>(try cases hG))|refine zt (v:=.c _) ?_)|(apply f_as;refine zu (v:=.c _) ?_)|(apply zx1;refine zb1 ?_)|(apply zw2;refine zf1 ?_)|(apply zo9;refine zp3 ?_)|(apply f_pk;refine zr1 (v:=.c _) ?_)|(apply f_bb;first|refine zn15 ?_|refine n_shr ?_))|(apply f_w;first|refine zo ?_|refine zc ?_)|refine za fun C=>?_|refine zd ?_|refine zg ?_)
  all_goals first
   | (exfalso;clear hE hI hrow;simp only [sh7,zp5,beq_iff_eq,beq_eq_false_iff_ne,ne_eq,decide_eq_true_iff,decide_eq_false_iff_not] at *;omega)
   | (refine zq rfl ?_)
   | (refine zn (by rfl) (fun hC=>?_) fun hC=>by exfalso;clear hE hI hrow;simp only [sh7,zp5,beq_iff_eq,beq_eq_false_iff_ne,ne_eq,decide_eq_true_iff,decide_eq_false_iff_not] at *;omega)
  all_goals
   repeat' (first|(apply f_wo;first|(apply f_mv;refine zt (v:=.c _) ?_)|(apply f_as;refine zu (v:=.c _) ?_)|(apply f_bi;refine zi6 ?_)|(apply f_cv;refine zh1 ?_)|refine n_bs ?_)|(apply f_w;first|refine zo ?_|refine zc ?_)|refine za fun C=>?_|refine zd ?_)
   refine zi ?_
   exact ret0 rfl (zo20 (zl1 (rw:=⟨5,1,k+1,false,bytC acc++[.v (.int .u8 (IntKind.u8.wrap (bits .and .i64 m 127)))]⟩) rfl rfl rfl (by rw [hrow];exact zw1 _) ze1)) ⟨zd19 hrow hkl,rfl⟩
 ·obtain⟨g,rfl,hg⟩:=zc19 hm hI
  rw [hg] at hE
  have hI2:=zx9 hI
  have hb0 : -9223372036854775808≤bits .and .i64 m 127+128∧bits .and .i64 m 127+128≤9223372036854775807:=by rw [zp5];omega
  have hrow:bytC acc++[.v (.int .u8 (IntKind.u8.wrap (bits .and .i64 m 127+128)))]=bytC (acc++[b8 (m % 128+128)]):=by rw [zp5,u8b (by omega) (by omega),←zv7]
  repeat' (first|(apply f_wo;first|(apply f_gs;refine n_sk ?_)|(apply f_mv;first|(refine zs1 ?_ ?_<;>intro hG<;>(try cases hG))|refine zt (v:=.c _) ?_)|(apply f_as;refine zu (v:=.c _) ?_)|(apply zx1;refine zb1 ?_)|(apply zw2;refine zf1 ?_)|(apply zo9;refine zp3 ?_)|(apply f_pk;refine zr1 (v:=.c _) ?_)|(apply f_bb;first|refine zn15 ?_|refine n_shr ?_))|(apply f_w;first|refine zo ?_|refine zc ?_)|refine za fun C=>?_|refine zd ?_|refine zg ?_)
  all_goals first
   | (exfalso;clear hE hI hI2 hrow;simp only [sh7,zp5,beq_iff_eq,beq_eq_false_iff_ne,ne_eq,decide_eq_true_iff,decide_eq_false_iff_not] at *;omega)
   | (refine zr rfl ?_)
   | (refine zn (by rfl) (fun hC=>by exfalso;clear hE hI hI2 hrow;simp only [sh7,zp5,beq_iff_eq,beq_eq_false_iff_ne,ne_eq,decide_eq_true_iff,decide_eq_false_iff_not] at *;omega) fun hC=>?_)
  all_goals
   repeat' (first|(apply f_wo;first|(apply f_mv;refine zt (v:=.c _) ?_)|(apply f_as;refine zu (v:=.c _) ?_)|(apply f_bi;refine zi6 ?_)|(apply zb2;refine zx ?_)|(apply f_cv;refine zh1 ?_)|refine n_bs ?_)|(apply f_w;first|refine zo ?_|refine zc ?_)|refine za fun C=>?_|refine zk ?_)
   refine⟨g,(m / 128,acc++[b8 (m % 128+128)],k+1),by omega,⟨by dsimp only;rw [←hE];simp,⟨hI2,by omega⟩,by simp [hk],by dsimp only;omega⟩,?_⟩
   (refine zf4 (fun j=>if j=8 then 39 else j) _ _ rfl rfl ?_ ?_<;>(repeat' (first|exact TmOk.nil|exact RwOk.nil|refine TmOk.cons ?_ ?_|refine RwOk.cons ?_ ?_|rfl|exact zv rfl (by assumption)|exact zv rfl (zw1 _)|(refine rnV_id' rfl ?_;exact byc)|(refine zo1 ?_;first|rfl|omega|(rw [za1 (by omega) (by omega)];omega))|(refine zv rfl ?_;exact byc)|exact zg2 rfl rfl|(refine zp1 (by rfl) (by rfl) ?_ ?_<;>exact byc)|(refine rw_rn' rfl rfl ?_;simp;done))))
  all_goals first
   | exact zo1 (sh7 m)
   | exact zd7 (r:=⟨5,1,k+1,false,bytC acc++[.v (.int .u8 (IntKind.u8.wrap (bits .and .i64 m 127+128)))]⟩) rfl (by rw [hrow]) (zw1 _)
end Go.Proofs.YtghljnfbbaklnaaGreat
-- BIT
namespace Go.Proofs.YtghljnfbbaklnaaGreat
open Go.RowKit
set_option maxRecDepth 100000
def bI (bs:List UInt8):List E:=bs.map fun b=>.int .u8 (b.toNat:Int)
theorem ze19 {bs:List UInt8}:(bI bs).length=bs.length:=by simp [bI]
theorem zf19 {bs:List UInt8}:∀e∈bI bs,e.enc.length=1:=fun e he=>by obtain⟨x,-,rfl⟩:=List.mem_map.1 he;rfl
theorem zg19 {bs:List UInt8}:∀e∈bI bs,∃z,e=.int .u8 z:=fun e he=>by obtain⟨x,-,rfl⟩:=List.mem_map.1 he;exact⟨_,rfl⟩
theorem zv4:∀bs:List UInt8,bytC bs=acL (bI bs)
 | []=>rfl
 | b :: r=>by
  show AC.v (.int .u8 b.toNat) :: bytC r=[AC.v (.int .u8 b.toNat)]++acL (bI r)
  rw [zv4 r];rfl
theorem zv10:∀bs:List UInt8,bytE (bI bs)=bs
 | []=>rfl
 | b :: r=>by
  have ih:=zv10 r
  simp only [bI,bytE,List.map_cons,List.map_map] at ih ⊢
  rw [ih]
  simp
def cut8 (bs:List UInt8)(a m:Nat):List UInt8:=(bs.drop a).take m
theorem subL_bI {bs:List UInt8}{a m:Nat}:subL (acL (bI bs)) a m=acL (bI (cut8 bs a m)):=by
 rw [←zv4,←zv4]
 simp only [subL,bytC,cut8,List.map_drop,List.map_take]
theorem e_rsl {ty:TypeId}{gd:Option (Nat×Bool)}{ps:String}{af:Array Edge}{t:Nat}{x lo hi:Operand}{bs:List UInt8}{a m:Nat}{z1 z2:Int}{ev:Operand→AV}{hp:Nat→Option Row}{id:Nat}(hx:ev x=.c (.ro bs.length 1 (acL (bI bs))))(h1:ev lo=.c (.v (.int .i64 z1)))(h2:ev hi=.c (.v (.int .i64 z2)))(e1:z1=(a:Int))(e2:z2=((a+m:Nat):Int))(hm:a+m≤bs.length) :
 EffD Tryz.prog (⟨some t,.slice 28 x (some lo) (some hi) none,ty,ps,af,gd⟩:Oper) ev hp id=some (.c (.ro (cut8 bs a m).length 1 (acL (bI (cut8 bs a m)))),.nop):=by
 have hl:(cut8 bs a m).length=m:=by simp [cut8];omega
 show (if isStr (ev x)=true then _ else dSlice Tryz.prog hp id 28 (ev x) (some (ev lo)) (some (ev hi)))=_
 rw [hx,if_neg (by intro h;cases h),h1,h2]
 unfold dSlice
 rw [Tryz.underlying28]
 have hk:(Tryz.prog.info? 5).map (·.size)=some 1:=by kernel_rfl
 simp only [hk]
 subst e1 e2
 have b1:bnd 0 (some (.c (.v (.int .i64 (a:Int)))))=some a:=by simp [bnd]
 have b2:bnd bs.length (some (.c (.v (.int .i64 ((a+m:Nat):Int)))))=some (a+m):=by simp only [bnd];rw [if_pos (by omega)];congr 1
 rw [b1,b2]
 simp only
 rw [if_pos ⟨trivial,by omega,hm⟩,show a+m-a=m by omega,Nat.mul_one,Nat.mul_one,subL_bI,hl]
theorem n_rsl {ops:Array Oper}{Q:Exit→Act→World→Prop}{C:Ctx}{i:Nat}{r:List Nat}{tm:Nat→AV}{hp:Nat→Option Row}{gn L:Nat}{us:List Nat}{ty:TypeId}{gd:Option (Nat×Bool)}{ps:String}{af:Array Edge}{t:Nat}{x lo hi:Operand}{bs:List UInt8}(a m:Nat){z1 z2:Int}
 (h:Walk Tryz.prog ops Q C false [] r ⟨upd tm t (.c (.ro (cut8 bs a m).length 1 (acL (bI (cut8 bs a m))))),hp,gn,us,L⟩) (hm:a+m≤bs.length) (e1:z1=(a:Int)) (e2:z2=((a+m:Nat):Int))
 (ht:Nat.blt t L=true:=by exact rfl) (hg:gw ops tm (⟨some t,.slice 28 x (some lo) (some hi) none,ty,ps,af,gd⟩:Oper)=some true:=by exact rfl)
 (hx:AS.ev ⟨tm,hp,gn,us,L⟩ x=.c (.ro bs.length 1 (acL (bI bs))):=by exact rfl) (h1:AS.ev ⟨tm,hp,gn,us,L⟩ lo=.c (.v (.int .i64 z1)):=by exact rfl) (h2:AS.ev ⟨tm,hp,gn,us,L⟩ hi=.c (.v (.int .i64 z2)):=by exact rfl) :
 WalkO Tryz.prog ops Q C false [] i (⟨some t,.slice 28 x (some lo) (some hi) none,ty,ps,af,gd⟩:Oper) r ⟨tm,hp,gn,us,L⟩:=zh1 h ht hg (e_rsl hx h1 h2 e1 e2 hm)
theorem o_rsl {ops:Array Oper}{Q:Exit→Act→World→Prop}{C:Ctx}{H:List (Nat×Oper×Inf)}{dr:Bool}{i:Nat}{r:List Nat}{tm:Nat→AV}{hp:Nat→Option Row}{gn L:Nat}{us:List Nat}{ty:TypeId}{gd:Option (Nat×Bool)}{ps:String}{af:Array Edge}{t:Nat}{x lo hi:Operand}{bs:List UInt8}(a m:Nat){z1 z2:Int}
 (h:Walk Tryz.prog ops Q C dr (keepH dr (i,(⟨some t,.slice 28 x (some lo) (some hi) none,ty,ps,af,gd⟩:Oper),⟨fpO (AS.ev ⟨tm,hp,gn,us,L⟩) (⟨some t,.slice 28 x (some lo) (some hi) none,ty,ps,af,gd⟩:Oper),[],[],.c (.ro (cut8 bs a m).length 1 (acL (bI (cut8 bs a m))))⟩) H) r ⟨upd tm t (.c (.ro (cut8 bs a m).length 1 (acL (bI (cut8 bs a m))))),hp,gn,us,L⟩) (hm:a+m≤bs.length) (e1:z1=(a:Int)) (e2:z2=((a+m:Nat):Int))
 (ht:Nat.blt t L=true:=by exact rfl) (hg:gw ops tm (⟨some t,.slice 28 x (some lo) (some hi) none,ty,ps,af,gd⟩:Oper)=some true:=by exact rfl)
 (hx:AS.ev ⟨tm,hp,gn,us,L⟩ x=.c (.ro bs.length 1 (acL (bI bs))):=by exact rfl) (h1:AS.ev ⟨tm,hp,gn,us,L⟩ lo=.c (.v (.int .i64 z1)):=by exact rfl) (h2:AS.ev ⟨tm,hp,gn,us,L⟩ hi=.c (.v (.int .i64 z2)):=by exact rfl)
 (hc:chk dr ops i (⟨some t,.slice 28 x (some lo) (some hi) none,ty,ps,af,gd⟩:Oper) ⟨fpO (AS.ev ⟨tm,hp,gn,us,L⟩) (⟨some t,.slice 28 x (some lo) (some hi) none,ty,ps,af,gd⟩:Oper),[],[],.c (.ro (cut8 bs a m).length 1 (acL (bI (cut8 bs a m))))⟩ H=true:=by first|(with_reducible exact zz1)|kernel_rfl) :
 WalkO Tryz.prog ops Q C dr H i (⟨some t,.slice 28 x (some lo) (some hi) none,ty,ps,af,gd⟩:Oper) r ⟨tm,hp,gn,us,L⟩:=zf2 h ht hg (e_rsl hx h1 h2 e1 e2 hm) hc
theorem zr15 (a:List UInt8):(ByteArray.mk a.toArray).toList=a:=by rw [ByteArray.toList_eq]
theorem zd9 (a b:List UInt8):Ctr Tryz.prog 184 [.c (.ro a.length 1 (acL (bI a))),.c (.ro b.length 1 (acL (bI b)))] [] (.c (.v (.bool (a==b)))) []:=by
 have h1:=zg19 (bs:=a)
 have h2:=zg19 (bs:=b)
 refine zi1 Tryz.func184 rfl rfl ?_
 repeat' (first|(apply f_wo;first|(apply f_mv;refine zt (v:=.c _) ?_)|(apply f_as;refine zu (v:=.c _) ?_)|(apply zx1;refine zn8 ?_)|(apply f_cv;refine n_cvr ?_))|(apply f_w;first|refine zo ?_|refine zc ?_)|refine za fun C=>?_|refine zd ?_)
 refine zi ?_;refine ret0 rfl zy ⟨?_,rfl⟩
 rw [zv10,zv10,zr15,zr15]
theorem zg7 {bs:List UInt8}(at_:Int)(hat : -9223372036854775808≤at_∧at_≤9223372036854775807)(hn:bs.length≤1073741824):Ctr Tryz.prog 153 [.c (.ro bs.length 1 (acL (bI bs))),.c (.v (.int .i64 at_))] [] (.tu [.c (.v (.int .i64 (getU bs at_).1)),.c (.v (.int .i64 (getU bs at_).2.1)),.c (.v (.bool (getU bs at_).2.2))]) []:=by
 rw [←zv4];exact zu20 at_ hat hn
theorem zh7 {bs:List UInt8}(at_:Int)(hat : -9223372036854775808≤at_∧at_≤9223372036854775807)(hn:bs.length≤1073741824):Ctr Tryz.prog 149 [.c (.ro bs.length 1 (acL (bI bs))),.c (.v (.int .i64 at_))] [] (.tu [.c (.v (.int .i64 (getU bs at_).1)),.c (.v (.int .i64 (getU bs at_).2.1)),.c (.v (.bool (getU bs at_).2.2))]) []:=by
 rw [←zv4];exact zv20 at_ hat hn
theorem ctr_nil {P:Program}{f:FuncId}{k:Nat}{ins:List AV}{pars:List (List AC)}{res:AV}{rows:List (List AC)}(h:Ctr P f (.c (.ro 0 k []) :: ins) pars res rows):Ctr P f (.c (.v (.slice none 0 0)) :: ins) pars res rows:=by
 refine⟨h.1,fun w St φ F us he=>h.2 w St φ F us { he with args:=?_ }⟩
 have:=he.args
 simp only [VRL] at this ⊢
 obtain⟨u,us',rfl,h1,h2⟩:=this
 refine⟨u,us',rfl,?_,h2⟩
 simp only [VR,CR] at h1 ⊢
 obtain⟨rfl,-⟩:=h1
 exact⟨trivial,none,0,rfl,⟨Nat.le_refl _,by unfold maxLen;omega,fun _=>rfl⟩,by simp,fun h=>absurd h (by omega)⟩
end Go.Proofs.YtghljnfbbaklnaaGreat
