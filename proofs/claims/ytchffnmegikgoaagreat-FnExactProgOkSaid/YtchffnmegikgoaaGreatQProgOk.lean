/- FnExactProgOk: for all arguments the law returns true (its sentence: the program's ProgOk is as the document's reference has it). No condition. -/
import Derived.Test.YtchffnmegikgoaaGreatOkPAJ
namespace Go.Proofs.YtchffnmegikgoaaGreat
open Go.ChangeShapes Go.WideShapes Go.ChangeAt Go.RowKit Go.Joins
open Go.ChangeMaps (open_string)
def types_progOk:List TypeId:=[25,23,66,61,98,58,60,9,3,44,22,63]
theorem zk12:∀t∈types_progOk,closedAt Tryz.prog types_progOk t=true:=List.all_eq_true.1 (by kernel_rfl)
set_option maxRecDepth 100000 in
theorem zl12 (os:Os)(started:os.Started)(H:Type)(enc:TypeId×Value→H) :
 ReturnsInHanded {} Tryz.checked os 3 .any (Rows.fnExactProgOkSpec.pre6 enc Tryz.prog Tryz.f3 Rows.fnExactProgOkRow.domain false) (Rows.fnExactProgOkSpec.post enc Tryz.prog Tryz.f3 false true false false):=by
 refine zv17 (fn:=Tryz.f3) started H enc (by kernel_rfl) Tryz.func3 (by kernel_rfl) rfl Tryz.underlying4 (isLaw1 rfl fun _ _=>rfl)
  (ChangeSpec.witness6 (enc:=enc) (C:=Tryz.checked) false ⟨#[],#[.agg #[.slice none 0 0,.slice none 0 0]],[]⟩ 8 (by kernel_rfl) (by kernel_rfl) (by kernel_rfl) (by kernel_rfl)) ?_
 intro W base args ds ps hval hA _
 rw [Tryz.params3] at hA hval
 obtain⟨v0,vs0,d0,ds0,p0,q0,hargs,rfl,rfl,h0,r0⟩:=trodAll_cons hA
 obtain⟨rfl,rfl,rfl⟩:=trodAll_nil r0
 obtain rfl:args=#[v0]:=by cases args;simp_all
 obtain⟨e0,rfl,t0,n0⟩:=zr14 zk12 (by decide) Tryz.underlying25 (hval 0 25 v0 rfl rfl) h0
 exact zt19 W t0 n0
theorem progOk_holds:Rows.FnExactProgOkSaid :=
 OpenClaim.holds_of_wide 3 Tryz.f3 rfl rfl rfl rfl rfl rfl rfl ⟨rfl,rfl,rfl,rfl,rfl⟩ rfl rfl rfl rfl rfl (by kernel_rfl) Tryz.func3 (by kernel_rfl)
  (of_decide_eq_true (by kernel_rfl)) (by unfold Func.isWrapper;first|(rw [if_pos (by decide +kernel)];kernel_rfl)|(rw [if_neg (by decide +kernel)];exact⟨rfl,rfl⟩))
  (fun os started H enc _=>zl12 os started H enc)
#print axioms progOk_holds
end Go.Proofs.YtchffnmegikgoaaGreat
