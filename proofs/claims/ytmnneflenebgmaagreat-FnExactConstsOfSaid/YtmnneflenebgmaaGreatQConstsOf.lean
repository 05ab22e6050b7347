/- T -/
import Derived.Test.YtmnneflenebgmaaGreatCnOAP
set_option maxHeartbeats 0
set_option maxRecDepth 100000
namespace Go.Proofs.YtmnneflenebgmaaGreat
open Go.ChangeShapes Go.WideShapes Go.ChangeAt Go.RowKit Go.Joins Go.Proofs.Tryz
open Go.ChangeMaps (open_string)
def gT:List TypeId:=[47,45,158,153,227,150,152,9,3,31,44,155]
theorem kZ:∀t∈gT,jH prog gT t=true:=List.all_eq_true.1 (by kernel_rfl)
theorem k9 (os:Os)(started:os.Started)(H:Type)(enc:TypeId×Value→H) :
 ReturnsInHanded {} Tryz.checked os 5 .any (Rows.fnExactConstsOfSpec.pre6 enc prog Tryz.f5 Rows.fnExactConstsOfRow.domain false) (Rows.fnExactConstsOfSpec.post enc prog Tryz.f5 false true false false):=by
 refine rv (fn:=Tryz.f5) started H enc (by kernel_rfl) func5 (by kernel_rfl) rfl underlying4 (zx2 rfl fun _ _=>rfl)
  (ChangeSpec.witness6 (enc:=enc) (C:=Tryz.checked) false ⟨#[],#[.agg #[.slice none 0 0,.slice none 0 0]],[]⟩ 8 (by kernel_rfl) (by kernel_rfl) (by kernel_rfl) (by kernel_rfl)) ?_
 intro W base args ds ps hval hA _
 rw [Tryz.params5] at hA hval
 obtain⟨v0,vs0,d0,ds0,p0,q0,hargs,rfl,rfl,h0,r0⟩:=trodAll_cons hA
 obtain⟨rfl,rfl,rfl⟩:=trodAll_nil r0
 obtain rfl:args=#[v0]:=by cases args;simp_all
 obtain⟨e0,rfl,t0,n0⟩:=oX kZ (by decide) underlying47 (hval 0 47 v0 rfl rfl) h0
 exact oQ W t0 n0
theorem constsOf_holds:Rows.FnExactConstsOfSaid :=
 OpenClaim.holds_of_wide 5 Tryz.f5 rfl rfl rfl rfl rfl rfl rfl ⟨rfl,rfl,rfl,rfl,rfl⟩ rfl rfl rfl rfl rfl (by kernel_rfl) func5 (by kernel_rfl)
  (of_decide_eq_true (by kernel_rfl)) (by unfold Func.isWrapper;first|(rw [if_pos (by decide +kernel)];kernel_rfl)|(rw [if_neg (by decide +kernel)];exact⟨rfl,rfl⟩))
  (fun os started H enc _=>k9 os started H enc)
#print axioms constsOf_holds
end Go.Proofs.YtmnneflenebgmaaGreat
