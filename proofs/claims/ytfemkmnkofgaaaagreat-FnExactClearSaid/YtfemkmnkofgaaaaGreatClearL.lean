/- The type Val, and slices of it: shape; the laws' own functions. -/
import Derived.Test.YtfemkmnkofgaaaaGreatClearK
namespace Go.Proofs.YtfemkmnkofgaaaaGreat
open Go.RowKit
theorem zi4 {e:E}(h:e.Ty Tryz.prog 127):∃(x0:Int) (x1:Int) (x2:ByteArray),e=(E.agg [.int .i64 x0,.int .i64 x1,.str x2])∧((Lit.int .i64 x0).wf=true)∧((Lit.int .i64 x1).wf=true)∧(x2.size≤9223372036854775807)∧True:=by
 obtain⟨fs,rfl,q0⟩:=h.agg_ Tryz.underlying127
 change E.TyF _ _ [3,3,9] at q0
 obtain⟨e0,r0,rfl,h0,q1⟩:=q0.cons_
 obtain⟨e1,r1,rfl,h1,q2⟩:=q1.cons_
 obtain⟨e2,r2,rfl,h2,q3⟩:=q2.cons_
 obtain rfl:=q3.nil_
 obtain⟨x0,rfl,gx0⟩:=h0.int_ Tryz.underlying3
 obtain⟨x1,rfl,gx1⟩:=h1.int_ Tryz.underlying3
 obtain⟨x2,rfl,gx2⟩:=h2.str_ Tryz.underlying9
 exact⟨x0,x1,x2,rfl,gx0,gx1,gx2,trivial⟩
theorem zs3 {e:E}(h:e.Ty Tryz.prog 108):∃(x0:Int) (x1:Int) (x2:ByteArray),e=(E.agg [.int .i64 x0,.int .i64 x1,.str x2])∧((Lit.int .i64 x0).wf=true)∧((Lit.int .i64 x1).wf=true)∧(x2.size≤9223372036854775807)∧True:=by
 obtain⟨fs,rfl,q0⟩:=h.agg_ Tryz.underlying108
 change E.TyF _ _ [3,3,9] at q0
 obtain⟨e0,r0,rfl,h0,q1⟩:=q0.cons_
 obtain⟨e1,r1,rfl,h1,q2⟩:=q1.cons_
 obtain⟨e2,r2,rfl,h2,q3⟩:=q2.cons_
 obtain rfl:=q3.nil_
 obtain⟨x0,rfl,gx0⟩:=h0.int_ Tryz.underlying3
 obtain⟨x1,rfl,gx1⟩:=h1.int_ Tryz.underlying3
 obtain⟨x2,rfl,gx2⟩:=h2.str_ Tryz.underlying9
 exact⟨x0,x1,x2,rfl,gx0,gx1,gx2,trivial⟩
set_option maxRecDepth 100000 in
set_option maxHeartbeats 1000000 in
theorem zt17 {e:E}(ht:e.Ty Tryz.prog 127):Sz 101 e:=by
 obtain⟨x0,x1,x2,rfl,gx0,gx1,gx2,-⟩:=zi4 ht
 intro left w hr h0 h1
 have HSZ:Hid ((E.agg [.int .i64 x0,.int .i64 x1,.str x2]).sz=(0+(0+(x2.size+0)))):=rfl
 change Calls _ _ #[.agg #[.int .i64 x0,.int .i64 x1,.string x2],.int .i64 left] w _
 go_enter Tryz.func101,Tryz.ntmps101
 by_cases hn1:left-x2.size<0
 ·go_wp2
  go_ret
  exact⟨-1,rfl,.inl (by omega),by omega,by exact by0⟩
 go_wp2
 go_ret
 refine⟨_,rfl,.inr ?_,by omega,by exact by0⟩
 show _=_
 rw [HSZ.out]
 push_cast
 omega
set_option maxRecDepth 100000 in
set_option maxHeartbeats 1000000 in
theorem zu17 {e:E}(ht:e.Ty Tryz.prog 127):To 104 108 e:=by
 have HT0:=Lib.hid ht
 obtain⟨x0,x1,x2,rfl,gx0,gx1,gx2,-⟩:=zi4 ht
 intro w hr hsz
 have hsz':(0+(0+(x2.size+0)))≤1048576:=hsz
 clear hsz hsz'
 change Calls _ _ #[.agg #[.int .i64 x0,.int .i64 x1,.string x2]] w _
 go_enter Tryz.func104,Tryz.ntmps104
 go_wp2
 refine bodyPost_ret (v:=.agg #[.int .i64 x0,.int .i64 x1,.string x2]) (by simp [results,Tryz.results104,go_sem]) rfl ⟨(E.agg [.int .i64 x0,.int .i64 x1,.str x2]),rfl,rfl,E.Ty.mk_agg Tryz.underlying108 (E.TyF.mk_cons (show E.Ty _ _ _ from ⟨Tryz.underlying3,gx0⟩) (E.TyF.mk_cons (show E.Ty _ _ _ from ⟨Tryz.underlying3,gx1⟩) (E.TyF.mk_cons (show E.Ty _ _ _ from ⟨Tryz.underlying9,by unfold maxLen;exact gx2⟩) (E.TyF.mk_nil)))),?_,?_,by exact by0⟩
 ·simp [E.Ho,E.HoL]
 ·simp [E.fp,E.fpL]
set_option maxRecDepth 100000 in
set_option maxHeartbeats 1000000 in
theorem zv17 {e e':E}(ht:e.Ty Tryz.prog 108)(ht':e'.Ty Tryz.prog 108):Eq 109 e e':=by
 obtain⟨x0,x1,x2,rfl,gx0,gx1,gx2,-⟩:=zs3 ht
 obtain⟨y0,y1,y2,rfl,gy0,gy1,gy2,-⟩:=zs3 ht'
 intro hd w hr hr'
 simp only [E.d,E.dL,E.agg.injEq,List.cons.injEq,E.int.injEq,E.str.injEq,E.bool.injEq,E.lst.injEq,true_and,and_true] at hd
 obtain⟨rfl,rfl,rfl⟩:=hd
 change Calls _ _ #[.agg #[.int .i64 x0,.int .i64 x1,.string x2],.agg #[.int .i64 x0,.int .i64 x1,.string x2]] w _
 go_enter Tryz.func109,Tryz.ntmps109
 go_wp2
 go_ret
 exact⟨rfl,by0⟩
end Go.Proofs.YtfemkmnkofgaaaaGreat
