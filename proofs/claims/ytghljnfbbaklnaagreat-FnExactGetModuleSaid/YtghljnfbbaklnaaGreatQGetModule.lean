/- FnExactGetModule: for all arguments the law returns true (its sentence: the program's GetModule is as the document's reference has it). No condition. -/
import Derived.Test.YtghljnfbbaklnaaGreatGetModuleAL
namespace Go.Proofs.YtghljnfbbaklnaaGreat
open Go.ChangeShapes Go.WideShapes Go.ChangeAt Go.RowKit Go.Joins
open Go.ChangeMaps (open_string)
def types_getModule:List TypeId:=[28,5]
theorem zr9:∀t∈types_getModule,closedAt Tryz.prog types_getModule t=true:=List.all_eq_true.1 (by kernel_rfl)
set_option maxRecDepth 100000 in
theorem zs9 (os:Os)(started:os.Started)(H:Type)(enc:TypeId×Value→H) :
 ReturnsInHanded {} Tryz.checked os 5 .any (Rows.fnExactGetModuleSpec.pre6 enc Tryz.prog Tryz.f5 Rows.fnExactGetModuleRow.domain false) (Rows.fnExactGetModuleSpec.post enc Tryz.prog Tryz.f5 false true false false):=by
 refine zd20 (fn:=Tryz.f5) started H enc (by kernel_rfl) Tryz.func5 (by kernel_rfl) rfl Tryz.underlying4 (isLaw1 rfl fun _ _=>rfl)
  (ChangeSpec.witness6 (enc:=enc) (C:=Tryz.checked) false ⟨#[],#[.slice none 0 0],[]⟩ 8 (by kernel_rfl) (by kernel_rfl) (by kernel_rfl) (by kernel_rfl)) ?_
 intro W base args ds ps hval hA _
 rw [Tryz.params5] at hA hval
 obtain⟨v0,vs0,d0,ds0,p0,q0,hargs,rfl,rfl,h0,r0⟩:=trodAll_cons hA
 obtain⟨rfl,rfl,rfl⟩:=trodAll_nil r0
 obtain rfl:args=#[v0]:=by cases args;simp_all
 obtain⟨e0,rfl,t0,n0⟩:=open_lst zr9 (by decide) Tryz.underlying28 (by kernel_rfl) (okWide_slice Tryz.underlying28 (hval 0 28 v0 rfl rfl)) h0
 exact zu14 W t0 n0
theorem getModule_holds:Rows.FnExactGetModuleSaid :=
 OpenClaim.holds_of_wide 5 Tryz.f5 rfl rfl rfl rfl rfl rfl rfl ⟨rfl,rfl,rfl,rfl,rfl⟩ rfl rfl rfl rfl rfl (by kernel_rfl) Tryz.func5 (by kernel_rfl)
  (of_decide_eq_true (by kernel_rfl)) (by unfold Func.isWrapper;first|(rw [if_pos (by decide +kernel)];kernel_rfl)|(rw [if_neg (by decide +kernel)];exact⟨rfl,rfl⟩))
  (fun os started H enc _=>zs9 os started H enc)
#print axioms getModule_holds
end Go.Proofs.YtghljnfbbaklnaaGreat
