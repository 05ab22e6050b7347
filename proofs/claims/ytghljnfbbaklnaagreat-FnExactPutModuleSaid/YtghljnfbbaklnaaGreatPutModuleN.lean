/- PutS of both sides. -/
import Derived.Test.YtghljnfbbaklnaaGreatPutModuleM
-- BIT
namespace Go.Proofs.YtghljnfbbaklnaaGreat
open Go.RowKit
set_option maxRecDepth 100000
def b8 (n:Int):UInt8:=UInt8.ofNat n.toNat
def sGo:Nat→Int→List UInt8
 | 0,n=>[b8 (n % 128)]
 | f+1,n=>if -64≤n∧n≤63 then [b8 (n % 128)] else b8 (n % 128+128) :: sGo f (n / 128)
def putS (n:Int):List UInt8:=sGo 5 (wrapI n)
def sIn (f:Nat)(n:Int):Prop := -(64*128 ^ f)≤n∧n<64*128 ^ f
theorem zp19 {f:Nat}{n:Int}(h:sIn (f+1) n):sIn f (n / 128):=by
 unfold sIn at *
 rw [Int.pow_succ] at h
 generalize (128:Int) ^ f=q at *
 omega
theorem zq19 (n:Int):sIn 5 (wrapI n):=by unfold sIn wrapI;omega
theorem zr19 {f:Nat}{n:Int}(h : -64≤n∧n≤63):sGo f n=[b8 (n % 128)]:=by
 cases f with
 | zero=>rfl
 | succ f=>unfold sGo;rw [if_pos h]
theorem zs19 {f:Nat}{n:Int}(h:¬(-64≤n∧n≤63))(hi:sIn f n):∃g,f=g+1∧sGo f n=b8 (n % 128+128) :: sGo g (n / 128):=by
 cases f with
 | zero=>unfold sIn at hi;simp at hi;omega
 | succ g=>exact⟨g,rfl,by rw [sGo,if_neg h]⟩
theorem zq2:∀bs:List UInt8,cloL (bytC bs)=true
 | []=>rfl
 | b :: r=>by
  show (true&&cloL (bytC r))=true
  rw [zq2 r];rfl
theorem u8b {x:Int}(h0:0≤x)(h1:x<256):IntKind.u8.wrap x=((b8 x).toNat:Int):=by
 rw [IntKind.wrap_u8]
 unfold b8
 rw [UInt8.toNat_ofNat']
 omega
theorem zb9 (acc:List UInt8)(b:UInt8):bytC (acc++[b])=bytC acc++[.v (.int .u8 (b.toNat:Int))]:=by simp [bytC]
theorem sh7 (n:Int):n.fdiv (2 ^ Int.toNat 7)=n / 128:=by rw [Int.fdiv_eq_ediv_of_nonneg _ (by decide)];rfl
theorem sGo_len (f:Nat)(n:Int):(sGo f n).length≤f+1:=by
 induction f generalizing n with
 | zero=>simp [sGo]
 | succ f ih=>unfold sGo;split<;>simp;exact ih _
theorem zb18 {n:Int}(hn : -9223372036854775808≤n∧n≤9223372036854775807):Ctr Tryz.prog 163 [.c (.v (.int .i64 n))] [] (.c (.v (.int .i64 (wrapI n)))) []:=by
 refine zx6 (us:=[.int .i64 n]) (by kernel_rfl) rfl (fun w St φ K us' h=>?_) fun w=>(zu7 n w hn).mono fun e w' h=>⟨h.1,by obtain⟨-,rfl⟩:=h;exact Below.refl _ _⟩
 simp only [VRL,VR,CR] at h
 obtain⟨u,us1,rfl,⟨rfl,-⟩,rfl⟩:=h
 rfl
theorem zc18 {n:Int}(hn : -9223372036854775808≤n∧n≤9223372036854775807):Ctr Tryz.prog 158 [.c (.v (.int .i64 n))] [] (.c (.v (.int .i64 (wrapI n)))) []:=by
 refine zx6 (us:=[.int .i64 n]) (by kernel_rfl) rfl (fun w St φ K us' h=>?_) fun w=>(zv7 n w hn).mono fun e w' h=>⟨h.1,by obtain⟨-,rfl⟩:=h;exact Below.refl _ _⟩
 simp only [VRL,VR,CR] at h
 obtain⟨u,us1,rfl,⟨rfl,-⟩,rfl⟩:=h
 rfl
theorem zf11 {cs:List AC}{k:Nat}{out:List UInt8}(h:cs=bytC out)(hk:k=out.length):(.c (.ow 5 k 1 cs):AV)=.c (.ow 5 out.length 1 (bytC out)):=by rw [h,hk]
theorem zw20 {bs:List UInt8}{n:Int}(hn : -9223372036854775808≤n∧n≤9223372036854775807)(hl:bs.length≤1073741824):Ctr Tryz.prog 98 [.c (.ro bs.length 1 (bytC bs)),.c (.v (.int .i64 n))] [] (.c (.ow 5 (bs++putS n).length 1 (bytC (bs++putS n)))) []:=by
 have cw:=zc18 hn
 refine zo2 Tryz.func98 rfl rfl ?_
 repeat' (first|(apply f_wo;first|(apply f_gs;refine n_sk ?_)|(apply f_mv;first|(refine zb2 ?_ ?_<;>intro hG<;>(try cases hG))|refine zj1 (v:=.c _) ?_|refine za ?_)|(apply f_as;first|refine zi1 (v:=.c _) ?_|refine za ?_)|(apply f_ca;first|refine zz2 cw ?_|refine zx2 cw ?_)|(apply f_bi;first|refine zc2 ?_|refine zc2 (hnu:=ze _) ?_|refine zp1 ?_|refine zp1 (hnu:=ze _) ?_|refine za ?_)|(apply zw1;first|refine zl ?_|refine za ?_)|(apply zx3;first|refine zr1 ?_|refine za ?_)|(apply f_pk;first|refine za2 (v:=.c _) ?_|refine za ?_)|(apply f_bb;first|refine zf2 ?_|refine zg2 ?_|refine zh8 ?_|refine zb13 ?_|refine zc13 ?_|refine zi8 ?_|refine za ?_)|(apply f_cv;refine za ?_)|refine n_bs ?_|refine za ?_)|(apply f_w;first|refine zv ?_|refine zc ?_)|refine zb fun C=>?_|refine zh ?_|refine zd ?_|refine zf ?_|refine zg ?_)
 refine ze3 (fun d:Int×List UInt8×Nat=>⟨tmsF [(1,.c (.v (.int .i64 d.1))),(5,.c (.sl 8 d.2.2))],hpsF [(8,8,⟨5,1,d.2.2,false,bytC d.2.1⟩)],0,[8],32⟩)
  (fun f d=>d.2.1++sGo f d.1=bs++putS n∧(sIn f d.1∧f≤5)∧d.2.2=d.2.1.length∧d.2.2≤1073741824+5-f) 5 (wrapI n,bs,bs.length) ⟨rfl,⟨zq19 n,by omega⟩,rfl,by dsimp only;omega⟩ ?_ ?_
 ·(refine zr2 _ _ rfl rfl ?_ ?_<;>(repeat' (first|exact TmOk.nil|exact RwOk.nil|refine TmOk.cons ?_ ?_|refine RwOk.cons ?_ ?_|rfl|exact zl1 rfl (by assumption)|exact zl1 rfl (zq2 _)|(refine rnV_id' rfl ?_;exact byc)|(refine zv2 ?_;first|rfl|omega|(rw [zv1 (by omega) (by omega)];omega))|(refine zl1 rfl ?_;exact byc)|exact zz3 rfl rfl|(refine zw2 (by rfl) (by rfl) ?_ ?_<;>exact byc)|(refine rw_rn' rfl rfl ?_;simp;done))))
 rintro f ⟨m,acc,k⟩ ⟨hE,⟨hI,h5⟩,hk,hA⟩
 dsimp only at hE hI hk hA ⊢
 by_cases hm : -64≤m∧m≤63
 ·rw [zr19 hm] at hE
  have hrow:bytC acc++[.v (.int .u8 (IntKind.u8.wrap (bits .and .i64 m 127)))]=bytC (bs++putS n):=by rw [zj7,u8b (by omega) (by omega),←zb9,hE]
  have hkl:k+1=(bs++putS n).length:=by rw [←hE,List.length_append,hk];rfl
  repeat' (first|(apply f_wo;first|(apply f_gs;refine n_sk ?_)|(apply f_mv;first|(refine zb2 ?_ ?_<;>intro hG<;>(try cases hG))|refine zj1 (v:=.c _) ?_|refine za ?_)|(apply f_as;first|refine zi1 (v:=.c _) ?_|refine za ?_)|(apply f_bi;first|refine zc2 ?_|refine zc2 (hnu:=ze _) ?_|refine zp1 ?_|refine zp1 (hnu:=ze _) ?_|refine za ?_)|(apply zw1;first|refine zl ?_|refine za ?_)|(apply zx3;first|refine zr1 ?_|refine za ?_)|(apply f_pk;first|refine za2 (v:=.c _) ?_|refine za ?_)|(apply f_bb;first|refine zf2 ?_|refine zg2 ?_|refine zh8 ?_|refine zb13 ?_|refine zc13 ?_|refine zi8 ?_|refine za ?_)|(apply f_cv;refine za ?_)|refine n_bs ?_|refine za ?_)|(apply f_w;first|refine zv ?_|refine zc ?_)|refine zb fun C=>?_|refine zh ?_|refine zd ?_|refine zf ?_|refine zg ?_)
  all_goals first
   | (exfalso;simp only [decide_eq_true_iff,decide_eq_false_iff_not] at hG;omega)
   | skip
  refine zn (by rfl) (fun hC=>absurd (of_decide_eq_true hC) (by omega)) fun hC=>?_
  repeat' (first|(apply f_wo;first|(apply f_gs;refine n_sk ?_)|(apply f_mv;first|(refine zb2 ?_ ?_<;>intro hG<;>(try cases hG))|refine zj1 (v:=.c _) ?_|refine za ?_)|(apply f_as;first|refine zi1 (v:=.c _) ?_|refine za ?_)|(apply f_bi;first|refine zc2 ?_|refine zc2 (hnu:=ze _) ?_|refine zp1 ?_|refine zp1 (hnu:=ze _) ?_|refine za ?_)|(apply zw1;first|refine zl ?_|refine za ?_)|(apply zx3;first|refine zr1 ?_|refine za ?_)|(apply f_pk;first|refine za2 (v:=.c _) ?_|refine za ?_)|(apply f_bb;first|refine zf2 ?_|refine zg2 ?_|refine zh8 ?_|refine zb13 ?_|refine zc13 ?_|refine zi8 ?_|refine za ?_)|(apply f_cv;refine za ?_)|refine n_bs ?_|refine za ?_)|(apply f_w;first|refine zv ?_|refine zc ?_)|refine zb fun C=>?_|refine zh ?_|refine zd ?_|refine zf ?_|refine zg ?_)
  refine zu ?_
  exact ret0 rfl (zv8 (zk3 (rw:=⟨5,1,k+1,false,bytC acc++[.v (.int .u8 (IntKind.u8.wrap (bits .and .i64 m 127)))]⟩) rfl rfl rfl (by rw [hrow];exact zq2 _) zn2)) ⟨zf11 hrow hkl,rfl⟩
 ·obtain⟨g,rfl,hg⟩:=zs19 hm hI
  rw [hg] at hE
  have hI2:=zp19 hI
  have h64 : -2199023255552≤m∧m≤2199023255552:=by
   unfold sIn at hI
   have:(128:Int) ^ (g+1)≤128 ^ 5:=by
    rcases (show g=0∨g=1∨g=2∨g=3∨g=4 by omega) with rfl|rfl|rfl|rfl|rfl<;>decide
   generalize (128:Int) ^ (g+1)=q at *
   omega
  have hrow:bytC acc++[.v (.int .u8 (IntKind.u8.wrap (bits .or .i64 (bits .and .i64 m 127) 128)))]=bytC (acc++[b8 (m % 128+128)]):=by rw [zj7,or128 _ (by omega) (by omega),u8b (by omega) (by omega),←zb9]
  repeat' (first|(apply f_wo;first|(apply f_gs;refine n_sk ?_)|(apply f_mv;first|(refine zb2 ?_ ?_<;>intro hG<;>(try cases hG))|refine zj1 (v:=.c _) ?_|refine za ?_)|(apply f_as;first|refine zi1 (v:=.c _) ?_|refine za ?_)|(apply f_bi;first|refine zc2 ?_|refine zc2 (hnu:=ze _) ?_|refine zp1 ?_|refine zp1 (hnu:=ze _) ?_|refine za ?_)|(apply zw1;first|refine zl ?_|refine za ?_)|(apply zx3;first|refine zr1 ?_|refine za ?_)|(apply f_pk;first|refine za2 (v:=.c _) ?_|refine za ?_)|(apply f_bb;first|refine zf2 ?_|refine zg2 ?_|refine zh8 ?_|refine zb13 ?_|refine zc13 ?_|refine zi8 ?_|refine za ?_)|(apply f_cv;refine za ?_)|refine n_bs ?_|refine za ?_)|(apply f_w;first|refine zv ?_|refine zc ?_)|refine zb fun C=>?_|refine zh ?_|refine zd ?_|refine zf ?_|refine zg ?_)
  all_goals first
   | (refine zt rfl ?_)
   | (refine zn (by rfl) (fun hC=>?_) fun hC=>absurd (of_decide_eq_false hC) (by simp only [decide_eq_true_iff,decide_eq_false_iff_not] at hG;omega))
  all_goals
   repeat' (first|(apply f_wo;first|(apply f_gs;refine n_sk ?_)|(apply f_mv;first|(refine zb2 ?_ ?_<;>intro hG<;>(try cases hG))|refine zj1 (v:=.c _) ?_|refine za ?_)|(apply f_as;first|refine zi1 (v:=.c _) ?_|refine za ?_)|(apply f_bi;first|refine zc2 ?_|refine zc2 (hnu:=ze _) ?_|refine zp1 ?_|refine zp1 (hnu:=ze _) ?_|refine za ?_)|(apply zw1;first|refine zl ?_|refine za ?_)|(apply zx3;first|refine zr1 ?_|refine za ?_)|(apply f_pk;first|refine za2 (v:=.c _) ?_|refine za ?_)|(apply f_bb;first|refine zf2 ?_|refine zg2 ?_|refine zh8 ?_|refine zb13 ?_|refine zc13 ?_|refine zi8 ?_|refine za ?_)|(apply f_cv;refine za ?_)|refine n_bs ?_|refine za ?_)|(apply f_w;first|refine zv ?_|refine zc ?_)|refine zb fun C=>?_|refine zh ?_|refine zd ?_|refine zf ?_|refine zg ?_|refine zt rfl ?_|refine zp rfl ?_)
   refine⟨g,(m / 128,acc++[b8 (m % 128+128)],k+1),by omega,⟨by dsimp only;rw [←hE];simp,⟨hI2,by omega⟩,by simp [hk],by dsimp only;omega⟩,?_⟩
   (refine za6 (fun j=>if j=8 then 23 else j) _ _ rfl rfl ?_ ?_<;>(repeat' (first|exact TmOk.nil|exact RwOk.nil|refine TmOk.cons ?_ ?_|refine RwOk.cons ?_ ?_|rfl|exact zl1 rfl (by assumption)|exact zl1 rfl (zq2 _)|(refine rnV_id' rfl ?_;exact byc)|(refine zv2 ?_;first|rfl|omega|(rw [zv1 (by omega) (by omega)];omega))|(refine zl1 rfl ?_;exact byc)|exact zz3 rfl rfl|(refine zw2 (by rfl) (by rfl) ?_ ?_<;>exact byc)|(refine rw_rn' rfl rfl ?_;simp;done))))
  all_goals first
   | exact zv2 (sh7 m)
   | exact zz17 (r:=⟨5,1,k+1,false,bytC acc++[.v (.int .u8 (IntKind.u8.wrap (bits .or .i64 (bits .and .i64 m 127) 128)))]⟩) rfl (by rw [hrow]) (zq2 _)
set_option maxHeartbeats 1000000 in
theorem zx20 {bs:List UInt8}{n:Int}(hn : -9223372036854775808≤n∧n≤9223372036854775807)(hl:bs.length≤1073741824):Ctr Tryz.prog 113 [.c (.ro bs.length 1 (bytC bs)),.c (.v (.int .i64 n))] [] (.c (.ow 5 (bs++putS n).length 1 (bytC (bs++putS n)))) []:=by
 have cw:=zb18 hn
 refine zo2 Tryz.func113 rfl rfl ?_
 repeat' (first|(apply f_wo;first|(apply f_gs;refine n_sk ?_)|(apply f_mv;first|(refine zb2 ?_ ?_<;>intro hG<;>(try cases hG))|refine zj1 (v:=.c _) ?_|refine za ?_)|(apply f_as;first|refine zi1 (v:=.c _) ?_|refine za ?_)|(apply f_ca;first|refine zz2 cw ?_|refine zx2 cw ?_)|(apply f_bi;first|refine zc2 ?_|refine zc2 (hnu:=ze _) ?_|refine zp1 ?_|refine zp1 (hnu:=ze _) ?_|refine za ?_)|(apply ze2;first|refine zy ?_|refine za ?_)|(apply zw1;first|refine zl ?_|refine za ?_)|(apply za4;first|refine zs1 ?_|refine za ?_)|(apply zu1;first|refine zk ?_|refine zt1 ?_|refine za ?_)|(apply f_pk;first|refine za2 (v:=.c _) ?_|refine za ?_)|(apply f_bb;first|refine zf2 ?_|refine zg2 ?_|refine zh8 ?_|refine zb13 ?_|refine zc13 ?_|refine zi8 ?_|refine za ?_)|(apply f_cv;refine za ?_)|refine n_bs ?_|refine za ?_)|(apply f_w;first|refine zv ?_|refine zc ?_)|refine zb fun C=>?_|refine zh ?_|refine zd ?_|refine zf ?_|refine zg ?_)
 refine ze3 (fun d:Int×List UInt8×Nat=>⟨tmsF [(1,.c (.v (.int .i64 d.1))),(5,.c (.sl 8 d.2.2))],hpsF [(8,8,⟨5,1,d.2.2,false,bytC d.2.1⟩)],0,[8],40⟩)
  (fun f d=>d.2.1++sGo f d.1=bs++putS n∧(sIn f d.1∧f≤5)∧d.2.2=d.2.1.length∧d.2.2≤1073741824+5-f) 5 (wrapI n,bs,bs.length) ⟨rfl,⟨zq19 n,by omega⟩,rfl,by dsimp only;omega⟩ ?_ ?_
 ·(refine zr2 _ _ rfl rfl ?_ ?_<;>(repeat' (first|exact TmOk.nil|exact RwOk.nil|refine TmOk.cons ?_ ?_|refine RwOk.cons ?_ ?_|rfl|exact zl1 rfl (by assumption)|exact zl1 rfl (zq2 _)|(refine rnV_id' rfl ?_;exact byc)|(refine zv2 ?_;first|rfl|omega|(rw [zv1 (by omega) (by omega)];omega))|(refine zl1 rfl ?_;exact byc)|exact zz3 rfl rfl|(refine zw2 (by rfl) (by rfl) ?_ ?_<;>exact byc)|(refine rw_rn' rfl rfl ?_;simp;done))))
 rintro f ⟨m,acc,k⟩ ⟨hE,⟨hI,h5⟩,hk,hA⟩
 dsimp only at hE hI hk hA ⊢
 clear cw
 by_cases hm : -64≤m∧m≤63
 ·rw [zr19 hm] at hE
  have hrow:bytC acc++[.v (.int .u8 (IntKind.u8.wrap (bits .and .i64 m 127)))]=bytC (bs++putS n):=by rw [zj7,u8b (by omega) (by omega),←zb9,hE]
  have hkl:k+1=(bs++putS n).length:=by rw [←hE,List.length_append,hk];rfl
  repeat' (first|(apply f_wo;first|(apply f_gs;refine n_sk ?_)|(apply f_mv;first|(refine zb2 ?_ ?_<;>intro hG<;>(try cases hG))|refine zj1 (v:=.c _) ?_|refine za ?_)|(apply f_as;first|refine zi1 (v:=.c _) ?_|refine za ?_)|(apply f_bi;first|refine zc2 ?_|refine zc2 (hnu:=ze _) ?_|refine zp1 ?_|refine zp1 (hnu:=ze _) ?_|refine za ?_)|(apply ze2;first|refine zy ?_|refine za ?_)|(apply zw1;first|refine zl ?_|refine za ?_)|(apply za4;first|refine zs1 ?_|refine za ?_)|(apply zu1;first|refine zk ?_|refine zt1 ?_|refine za ?_)|(apply f_pk;first|refine za2 (v:=.c _) ?_|refine za ?_)|(apply f_bb;first|refine zf2 ?_|refine zg2 ?_|refine zh8 ?_|refine zb13 ?_|refine zc13 ?_|refine zi8 ?_|refine za ?_)|(apply f_cv;refine za ?_)|refine n_bs ?_|refine za ?_)|(apply f_w;first|refine zv ?_|refine zc ?_)|refine zb fun C=>?_|refine zh ?_|refine zd ?_|refine zf ?_|refine zg ?_)
  all_goals first
   | (exfalso;clear hE hI hrow;simp only [sh7,zj7,beq_iff_eq,beq_eq_false_iff_ne,ne_eq,decide_eq_true_iff,decide_eq_false_iff_not] at *;omega)
   | (refine zt rfl ?_)
   | (refine zn (by rfl) (fun hC=>?_) fun hC=>by exfalso;clear hE hI hrow;simp only [sh7,zj7,beq_iff_eq,beq_eq_false_iff_ne,ne_eq,decide_eq_true_iff,decide_eq_false_iff_not] at *;omega)
  all_goals
   repeat' (first|(apply f_wo;first|(apply f_gs;refine n_sk ?_)|(apply f_mv;first|(refine zb2 ?_ ?_<;>intro hG<;>(try cases hG))|refine zj1 (v:=.c _) ?_|refine za ?_)|(apply f_as;first|refine zi1 (v:=.c _) ?_|refine za ?_)|(apply f_bi;first|refine zc2 ?_|refine zc2 (hnu:=ze _) ?_|refine zp1 ?_|refine zp1 (hnu:=ze _) ?_|refine za ?_)|(apply ze2;first|refine zy ?_|refine za ?_)|(apply zw1;first|refine zl ?_|refine za ?_)|(apply za4;first|refine zs1 ?_|refine za ?_)|(apply zu1;first|refine zk ?_|refine zt1 ?_|refine za ?_)|(apply f_pk;first|refine za2 (v:=.c _) ?_|refine za ?_)|(apply f_bb;first|refine zf2 ?_|refine zg2 ?_|refine zh8 ?_|refine zb13 ?_|refine zc13 ?_|refine zi8 ?_|refine za ?_)|(apply f_cv;refine za ?_)|refine n_bs ?_|refine za ?_)|(apply f_w;first|refine zv ?_|refine zc ?_)|refine zb fun C=>?_|refine zh ?_|refine zd ?_|refine zf ?_|refine zg ?_|refine zt rfl ?_|refine zp rfl ?_)
   refine zu ?_
   exact ret0 rfl (zv8 (zk3 (rw:=⟨5,1,k+1,false,bytC acc++[.v (.int .u8 (IntKind.u8.wrap (bits .and .i64 m 127)))]⟩) rfl rfl rfl (by rw [hrow];exact zq2 _) zn2)) ⟨zf11 hrow hkl,rfl⟩
 ·obtain⟨g,rfl,hg⟩:=zs19 hm hI
  rw [hg] at hE
  have hI2:=zp19 hI
  have hb0 : -9223372036854775808≤bits .and .i64 m 127+128∧bits .and .i64 m 127+128≤9223372036854775807:=by rw [zj7];omega
  have hrow:bytC acc++[.v (.int .u8 (IntKind.u8.wrap (bits .and .i64 m 127+128)))]=bytC (acc++[b8 (m % 128+128)]):=by rw [zj7,u8b (by omega) (by omega),←zb9]
  repeat' (first|(apply f_wo;first|(apply f_gs;refine n_sk ?_)|(apply f_mv;first|(refine zb2 ?_ ?_<;>intro hG<;>(try cases hG))|refine zj1 (v:=.c _) ?_|refine za ?_)|(apply f_as;first|refine zi1 (v:=.c _) ?_|refine za ?_)|(apply f_bi;first|refine zc2 ?_|refine zc2 (hnu:=ze _) ?_|refine zp1 ?_|refine zp1 (hnu:=ze _) ?_|refine za ?_)|(apply ze2;first|refine zy ?_|refine za ?_)|(apply zw1;first|refine zl ?_|refine za ?_)|(apply za4;first|refine zs1 ?_|refine za ?_)|(apply zu1;first|refine zk ?_|refine zt1 ?_|refine za ?_)|(apply f_pk;first|refine za2 (v:=.c _) ?_|refine za ?_)|(apply f_bb;first|refine zf2 ?_|refine zg2 ?_|refine zh8 ?_|refine zb13 ?_|refine zc13 ?_|refine zi8 ?_|refine za ?_)|(apply f_cv;refine za ?_)|refine n_bs ?_|refine za ?_)|(apply f_w;first|refine zv ?_|refine zc ?_)|refine zb fun C=>?_|refine zh ?_|refine zd ?_|refine zf ?_|refine zg ?_)
  all_goals first
   | (exfalso;clear hE hI hI2 hrow;simp only [sh7,zj7,beq_iff_eq,beq_eq_false_iff_ne,ne_eq,decide_eq_true_iff,decide_eq_false_iff_not] at *;omega)
   | (refine zp rfl ?_)
   | (refine zn (by rfl) (fun hC=>by exfalso;clear hE hI hI2 hrow;simp only [sh7,zj7,beq_iff_eq,beq_eq_false_iff_ne,ne_eq,decide_eq_true_iff,decide_eq_false_iff_not] at *;omega) fun hC=>?_)
  all_goals
   repeat' (first|(apply f_wo;first|(apply f_gs;refine n_sk ?_)|(apply f_mv;first|(refine zb2 ?_ ?_<;>intro hG<;>(try cases hG))|refine zj1 (v:=.c _) ?_|refine za ?_)|(apply f_as;first|refine zi1 (v:=.c _) ?_|refine za ?_)|(apply f_bi;first|refine zc2 ?_|refine zc2 (hnu:=ze _) ?_|refine zp1 ?_|refine zp1 (hnu:=ze _) ?_|refine za ?_)|(apply ze2;first|refine zy ?_|refine za ?_)|(apply zw1;first|refine zl ?_|refine za ?_)|(apply za4;first|refine zs1 ?_|refine za ?_)|(apply zu1;first|refine zk ?_|refine zt1 ?_|refine za ?_)|(apply f_pk;first|refine za2 (v:=.c _) ?_|refine za ?_)|(apply f_bb;first|refine zf2 ?_|refine zg2 ?_|refine zh8 ?_|refine zb13 ?_|refine zc13 ?_|refine zi8 ?_|refine za ?_)|(apply f_cv;refine za ?_)|refine n_bs ?_|refine za ?_)|(apply f_w;first|refine zv ?_|refine zc ?_)|refine zb fun C=>?_|refine zh ?_|refine zd ?_|refine zf ?_|refine zg ?_|refine zt rfl ?_|refine zp rfl ?_)
   refine⟨g,(m / 128,acc++[b8 (m % 128+128)],k+1),by omega,⟨by dsimp only;rw [←hE];simp,⟨hI2,by omega⟩,by simp [hk],by dsimp only;omega⟩,?_⟩
   (refine za6 (fun j=>if j=8 then 39 else j) _ _ rfl rfl ?_ ?_<;>(repeat' (first|exact TmOk.nil|exact RwOk.nil|refine TmOk.cons ?_ ?_|refine RwOk.cons ?_ ?_|rfl|exact zl1 rfl (by assumption)|exact zl1 rfl (zq2 _)|(refine rnV_id' rfl ?_;exact byc)|(refine zv2 ?_;first|rfl|omega|(rw [zv1 (by omega) (by omega)];omega))|(refine zl1 rfl ?_;exact byc)|exact zz3 rfl rfl|(refine zw2 (by rfl) (by rfl) ?_ ?_<;>exact byc)|(refine rw_rn' rfl rfl ?_;simp;done))))
  all_goals first
   | exact zv2 (sh7 m)
   | exact zz17 (r:=⟨5,1,k+1,false,bytC acc++[.v (.int .u8 (IntKind.u8.wrap (bits .and .i64 m 127+128)))]⟩) rfl (by rw [hrow]) (zq2 _)
end Go.Proofs.YtghljnfbbaklnaaGreat
-- BIT
namespace Go.Proofs.YtghljnfbbaklnaaGreat
open Go.RowKit
set_option maxRecDepth 100000
def bI (bs:List UInt8):List E:=bs.map fun b=>.int .u8 (b.toNat:Int)
theorem bI_len {bs:List UInt8}:(bI bs).length=bs.length:=by simp [bI]
theorem bI_enc {bs:List UInt8}:∀e∈bI bs,e.enc.length=1:=fun e he=>by obtain⟨x,-,rfl⟩:=List.mem_map.1 he;rfl
theorem ctr_nil {P:Program}{f:FuncId}{k:Nat}{ins:List AV}{pars:List (List AC)}{res:AV}{rows:List (List AC)}(h:Ctr P f (.c (.ro 0 k []) :: ins) pars res rows):Ctr P f (.c (.v (.slice none 0 0)) :: ins) pars res rows:=by
 refine⟨h.1,fun w St φ F us he=>h.2 w St φ F us { he with args:=?_ }⟩
 have:=he.args
 simp only [VRL] at this ⊢
 obtain⟨u,us',rfl,h1,h2⟩:=this
 refine⟨u,us',rfl,?_,h2⟩
 simp only [VR,CR] at h1 ⊢
 obtain⟨rfl,-⟩:=h1
 exact⟨trivial,none,0,rfl,⟨Nat.le_refl _,by unfold maxLen;omega,fun _=>rfl⟩,by simp,fun h=>absurd h (by omega)⟩
end Go.Proofs.YtghljnfbbaklnaaGreat
namespace Go.Proofs.YtghljnfbbaklnaaGreat
open Go.RowKit
theorem zc9:∀bs:List UInt8,toRoL (bytC bs)=bytC bs
 | []=>rfl
 | b :: r=>by
  show AC.v _ :: toRoL (bytC r)=AC.v _ :: bytC r
  rw [zc9 r]
theorem za12:∀bs:List UInt8,rofrL (bytC bs)=true
 | []=>rfl
 | b :: r=>by
  show (true&&rofrL (bytC r))=true
  rw [za12 r];rfl
section
variable {ops:Array Oper}{Q:Exit→Act→World→Prop}{C:Ctx}{i:Nat}{r:List Nat}
variable {tm:Nat→AV}{hp:Nat→Option Row}{gn L:Nat}{us:List Nat}
theorem zj4 {ty:TypeId}{gd:Option (Nat×Bool)}{ps:String}{af:Array Edge}{t:Nat}{cas:Array Operand}{cts:Array TypeId}{fv:Operand}{f:FuncId}{caps:List AC}{args ins:List AV}{x:Value}(hctr:Ctr Tryz.prog f ins [] (.c (.v x)) [])(h:Walk Tryz.prog ops Q C false [] r ⟨upd tm t (.c (.v x)),hp,gn,us,L⟩)(ht:Nat.blt t L=true:=by exact rfl)(hg:gw ops tm (⟨some t,.call ⟨.value fv,cas,cts⟩,ty,ps,af,gd⟩:Oper)=some true:=by exact rfl)(hfv:AS.ev ⟨tm,hp,gn,us,L⟩ fv=.c (.fn f caps):=by exact rfl)(hargs:callArgs ⟨tm,hp,gn,us,L⟩ ⟨.value fv,cas,cts⟩ caps=args:=by exact rfl)(hcv:args.map (cvV hp [])=ins:=by (first|((repeat' (first|rfl|exact zt6|refine zb6 ?_ ?_|refine zw11 ?_|refine cv_c ?_|refine zc6 ?_ ?_|(refine zr7 ?_;(first|exact zq2 _|exact zo _|exact byc))|(refine zs7 ?_;exact byc)|refine zt7 ?_|(refine cvC_sl' (by rfl) (by rfl) (by rfl) (by rfl) ?_ ?_;(focus (first|exact zq2 _|exact byc));(first|rfl|exact zc9 _|exact zh5 _))))<;>exact rfl)|fail)):WalkO Tryz.prog ops Q C false [] i (⟨some t,.call ⟨.value fv,cas,cts⟩,ty,ps,af,gd⟩:Oper) r ⟨tm,hp,gn,us,L⟩:=zz2 (hctr:=hctr) (h:=h) (ht:=ht) (hg:=hg) (hfv:=hfv) (hargs:=hargs) (hcv:=hcv)
theorem zk4 {ty:TypeId}{gd:Option (Nat×Bool)}{cas:Array Operand}{cts:Array TypeId}{ps:String}{af:Array Edge}{t:Nat}{fv:Operand}{f:FuncId}{caps:List AC}{args ins:List AV}{res:AV}{nv:AV}{nr:List (Nat×Row)}(hctr:Ctr Tryz.prog f ins [] res [])(h:Walk Tryz.prog ops Q C false [] r ⟨upd tm t nv,updL hp (nr.map (fun p=>(p.1,some p.2))),gn,nr.map (·.1)++us,L⟩)(ht:Nat.blt t L=true:=by exact rfl)(hg:gw ops tm (⟨some t,.call ⟨.value fv,cas,cts⟩,ty,ps,af,gd⟩:Oper)=some true:=by exact rfl)(hfv:AS.ev ⟨tm,hp,gn,us,L⟩ fv=.c (.fn f caps):=by exact rfl)(hargs:callArgs ⟨tm,hp,gn,us,L⟩ ⟨.value fv,cas,cts⟩ caps=args:=by exact rfl)(hcv:args.map (cvV hp [])=ins:=by (first|((repeat' (first|rfl|exact zt6|refine zb6 ?_ ?_|refine zw11 ?_|refine cv_c ?_|refine zc6 ?_ ?_|(refine zr7 ?_;(first|exact zq2 _|exact zo _|exact byc))|(refine zs7 ?_;exact byc)|refine zt7 ?_|(refine cvC_sl' (by rfl) (by rfl) (by rfl) (by rfl) ?_ ?_;(focus (first|exact zq2 _|exact byc));(first|rfl|exact zc9 _|exact zh5 _))))<;>exact rfl)|fail))(hm:rofrV res=true:=by first|exact za12 _|(first|rfl|exact zi4 _|(simp [rofrV,rofrVL,rofrL,rofr,zi4,zd5,za5];done)))(hopn:opV (100*(t+1)) res=(nv,nr):=by exact rfl)(hf:(nr.all fun p=>Nat.ble gn p.1&&!us.contains p.1)=true:=by exact rfl):WalkO Tryz.prog ops Q C false [] i (⟨some t,.call ⟨.value fv,cas,cts⟩,ty,ps,af,gd⟩:Oper) r ⟨tm,hp,gn,us,L⟩:=zx2 (hctr:=hctr) (h:=h) (ht:=ht) (hg:=hg) (hfv:=hfv) (hargs:=hargs) (hcv:=hcv) (hm:=hm) (hopn:=hopn) (hf:=hf)
theorem zp5 {H:List (Nat×Oper×Inf)}{dr:Bool}{ty:TypeId}{gd:Option (Nat×Bool)}{cas:Array Operand}{cts:Array TypeId}{ps:String}{af:Array Edge}{t:Nat}{fv:Operand}{f:FuncId}{caps:List AC}{args ins:List AV}{res:AV}{nv:AV}{nr:List (Nat×Row)}(hctr:Ctr Tryz.prog f ins [] res [])(h:Walk Tryz.prog ops Q C dr (keepH dr (i,(⟨some t,.call ⟨.value fv,cas,cts⟩,ty,ps,af,gd⟩:Oper),⟨args.flatMap snV++[],nr.map (fun p=>(p.1,some p.2)),nr.map (·.1),nv⟩) H) r ⟨upd tm t nv,updL hp (nr.map (fun p=>(p.1,some p.2))),gn,nr.map (·.1)++us,L⟩)(ht:Nat.blt t L=true:=by exact rfl)(hg:gw ops tm (⟨some t,.call ⟨.value fv,cas,cts⟩,ty,ps,af,gd⟩:Oper)=some true:=by exact rfl)(hfv:AS.ev ⟨tm,hp,gn,us,L⟩ fv=.c (.fn f caps):=by exact rfl)(hargs:callArgs ⟨tm,hp,gn,us,L⟩ ⟨.value fv,cas,cts⟩ caps=args:=by exact rfl)(hcv:args.map (cvV hp [])=ins:=by (first|((repeat' (first|rfl|exact zt6|refine zb6 ?_ ?_|refine zw11 ?_|refine cv_c ?_|refine zc6 ?_ ?_|(refine zr7 ?_;(first|exact zq2 _|exact zo _|exact byc))|(refine zs7 ?_;exact byc)|refine zt7 ?_|(refine cvC_sl' (by rfl) (by rfl) (by rfl) (by rfl) ?_ ?_;(focus (first|exact zq2 _|exact byc));(first|rfl|exact zc9 _|exact zh5 _))))<;>exact rfl)|fail))(hm:rofrV res=true:=by first|exact za12 _|(first|rfl|exact zi4 _|(simp [rofrV,rofrVL,rofrL,rofr,zi4,zd5,za5];done)))(hopn:opV (100*(t+1)) res=(nv,nr):=by exact rfl)(hf:(nr.all fun p=>Nat.ble gn p.1&&!us.contains p.1)=true:=by exact rfl)(hc:chk dr ops i (⟨some t,.call ⟨.value fv,cas,cts⟩,ty,ps,af,gd⟩:Oper) ⟨args.flatMap snV++[],nr.map (fun p=>(p.1,some p.2)),nr.map (·.1),nv⟩ H=true:=by first|(with_reducible exact zh3)|kernel_rfl):WalkO Tryz.prog ops Q C dr H i (⟨some t,.call ⟨.value fv,cas,cts⟩,ty,ps,af,gd⟩:Oper) r ⟨tm,hp,gn,us,L⟩:=zi5 (hctr:=hctr) (h:=h) (ht:=ht) (hg:=hg) (hfv:=hfv) (hargs:=hargs) (hcv:=hcv) (hm:=hm) (hopn:=hopn) (hf:=hf) (hc:=hc)
end
set_option maxRecDepth 100000
def inR (x a b:Int):Bool:=decide (a≤x)&&decide (x≤b)
theorem zd6 (x a b:Int):Ctr Tryz.prog 102 [.c (.v (.int .i64 x)),.c (.v (.int .i64 a)),.c (.v (.int .i64 b))] [] (.c (.v (.bool (inR x a b)))) []:=by
 refine zo2 Tryz.func102 rfl rfl ?_
 repeat' (first|refine zh ?_|refine zd ?_|refine zf ?_|refine zg ?_|refine zb fun C=>?_|refine zj (by kernel_rfl) (by kernel_rfl) fun C=>?_|refine zc ?_|(refine x_gm ?_ ?_<;>intro hG<;>(try cases hG))|refine zc4 ?_|refine x_bs ?_|refine x_gr ?_|refine x_st ?_|refine x_mv ?_|refine x_sk ?_|refine zn4 ?_|refine x_ix ?_|refine zo4 ?_|refine zp4 ?_|refine ze4 ?_|refine zj3 ?_|refine x_ld ?_|refine za18 ?_|(refine zd4 (by rfl) ?_ ?_<;>intro hC<;>(try cases hC)))
 all_goals
  refine zu ?_
  refine ret0 rfl zf3 ⟨?_,rfl⟩
  refine congrArg (fun s=>AV.c (AC.v (Value.bool s))) ?_
  simp at *
  simp [inR, *]
  try omega
theorem za7 (x a b:Int):Ctr Tryz.prog 97 [.c (.v (.int .i64 x)),.c (.v (.int .i64 a)),.c (.v (.int .i64 b))] [] (.c (.v (.bool (inR x a b)))) []:=by
 refine zo2 Tryz.func97 rfl rfl ?_
 repeat' (first|refine zh ?_|refine zd ?_|refine zf ?_|refine zg ?_|refine zb fun C=>?_|refine zj (by kernel_rfl) (by kernel_rfl) fun C=>?_|refine zc ?_|(refine x_gm ?_ ?_<;>intro hG<;>(try cases hG))|refine zc4 ?_|refine x_bs ?_|refine x_gr ?_|refine x_st ?_|refine x_mv ?_|refine x_sk ?_|refine zn4 ?_|refine x_ix ?_|refine zo4 ?_|refine zp4 ?_|refine ze4 ?_|refine zj3 ?_|refine x_ld ?_|refine za18 ?_|(refine zd4 (by rfl) ?_ ?_<;>intro hC<;>(try cases hC)))
 all_goals
  refine zu ?_
  refine ret0 rfl zf3 ⟨?_,rfl⟩
  refine congrArg (fun s=>AV.c (AC.v (Value.bool s))) ?_
  simp at *
  simp [inR, *]
  try omega
def digB (c:Nat):Bool:=decide (48≤c)&&decide (c≤57)
theorem isDigit_c (c:Nat):Ctr Tryz.prog 228 [.c (.v (.int .u8 (c:Int)))] [] (.c (.v (.bool (digB c)))) []:=by
 refine zo2 Tryz.func228 rfl rfl ?_
 repeat' (first|refine zh ?_|refine zd ?_|refine zf ?_|refine zg ?_|refine zb fun C=>?_|refine zj (by kernel_rfl) (by kernel_rfl) fun C=>?_|refine zc ?_|(refine x_gm ?_ ?_<;>intro hG<;>(try cases hG))|refine zc4 ?_|refine x_bs ?_|refine x_gr ?_|refine x_st ?_|refine x_mv ?_|refine x_sk ?_|refine zn4 ?_|refine x_ix ?_|refine zo4 ?_|refine zp4 ?_|refine ze4 ?_|refine zj3 ?_|refine x_ld ?_|refine za18 ?_|(refine zd4 (by rfl) ?_ ?_<;>intro hC<;>(try cases hC)))
 all_goals
  (first|refine zu ?_|skip);refine ret0 rfl zf3 ⟨?_,rfl⟩;refine congrArg (fun s=>AV.c (AC.v (Value.bool s))) ?_
  unfold digB
  (rw [Bool.eq_iff_iff];(try simp only [Bool.and_eq_true,Bool.or_eq_true,Bool.not_eq_true',decide_eq_true_iff,decide_eq_false_iff_not,beq_iff_eq,Bool.and_eq_false_iff,Bool.or_eq_false_iff,bne_iff_ne,ne_eq,Bool.true_eq_false,Bool.false_eq_true,true_iff,false_iff,iff_true,iff_false] at *);first|omega|(simp at *;omega))
theorem l2Digit_c {c:Nat}(hc:c<256):Ctr Tryz.prog 237 [.c (.v (.int .u8 (c:Int)))] [] (.c (.v (.bool (digB c)))) []:=by
 refine zo2 Tryz.func237 rfl rfl ?_
 repeat' (first|refine zh ?_|refine zd ?_|refine zf ?_|refine zg ?_|refine zb fun C=>?_|refine zj (by kernel_rfl) (by kernel_rfl) fun C=>?_|refine zc ?_|(refine x_gm ?_ ?_<;>intro hG<;>(try cases hG))|refine zc16 ?_|refine zd16 ?_|refine ze16 ?_|refine zf16 ?_|refine zy11 ?_|refine zc4 ?_|refine zo10 ?_|refine zz15 ?_|refine za16 ?_|refine x_bs ?_|refine x_gr ?_|refine x_st ?_|refine x_mv ?_|refine x_sk ?_|refine zn4 ?_|refine x_ix ?_|refine zo4 ?_|refine zp4 ?_|refine ze4 ?_|refine ze4 (hnu:=ze _) ?_|refine zj3 ?_|refine zj3 (hnu:=ze _) ?_|refine x_ld ?_|refine zy15 ?_|refine zm7 (za7 _ _ _) ?_|(refine zd4 (by rfl) ?_ ?_<;>intro hC<;>(try cases hC)))
 all_goals
  (first|refine zu ?_|skip);refine ret0 rfl zf3 ⟨?_,rfl⟩;refine congrArg (fun s=>AV.c (AC.v (Value.bool s))) ?_
  unfold digB inR
  (rw [Bool.eq_iff_iff];(try simp only [Bool.and_eq_true,Bool.or_eq_true,Bool.not_eq_true',decide_eq_true_iff,decide_eq_false_iff_not,beq_iff_eq,Bool.and_eq_false_iff,Bool.or_eq_false_iff,bne_iff_ne,ne_eq,Bool.true_eq_false,Bool.false_eq_true,true_iff,false_iff,iff_true,iff_false] at *);first|omega|(simp at *;omega))
theorem zd9 (p:E→Bool)(l:List E):decide (idxF p l ≥ 0)=l.any p:=by
 cases h:l.any p with
 | true =>
  obtain⟨x,hx,hp⟩:=List.any_eq_true.1 h
  rcases zr20 p l with h1|⟨k,h1,_⟩
  ·have:=idxF_neg h1
   rw [List.findIdx?_eq_none_iff] at this
   rw [this x hx] at hp;cases hp
  ·rw [h1];simp
 | false =>
  have hn:∀x∈l,p x=false:=fun x hx=>by
   cases hp:p x with
   | false=>rfl
   | true=>rw [List.any_eq_true.2 ⟨x,hx,hp⟩] at h;cases h
  rw [zh7 fun j y _ hy=>hn y (List.mem_of_getElem? hy)]
  rfl
section
variable {ops:Array Oper}{Q:Exit→Act→World→Prop}{C:Ctx}{H:List (Nat×Oper×Inf)}{i:Nat}{r:List Nat}{dr:Bool}
variable {tm:Nat→AV}{hp:Nat→Option Row}{gn L:Nat}{us:List Nat}
end
def Byt (l:List E):Prop:=∀e∈l,∃x:Nat,x<256∧e=.int .u8 (x:Int)
theorem Byt.enc {l:List E}(h:Byt l):∀e∈l,e.enc.length=1:=fun e he=>by obtain⟨x,-,rfl⟩:=h e he;rfl
end Go.Proofs.YtghljnfbbaklnaaGreat
-- BIT
-- MVP
namespace Go.Proofs.YtghljnfbbaklnaaGreat
open Go.RowKit
set_option maxRecDepth 100000
end Go.Proofs.YtghljnfbbaklnaaGreat
-- BIT
-- MVP
namespace Go.Proofs.YtghljnfbbaklnaaGreat
open Go.RowKit
set_option maxRecDepth 100000
end Go.Proofs.YtghljnfbbaklnaaGreat
