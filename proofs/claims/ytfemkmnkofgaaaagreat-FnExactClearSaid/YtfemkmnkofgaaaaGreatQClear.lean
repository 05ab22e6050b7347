/- FnExactClear: for all arguments the law returns true (its sentence: the program's Clear is as the document's reference has it). No condition. -/
import Derived.Test.YtfemkmnkofgaaaaGreatClearAB
namespace Go.Proofs.YtfemkmnkofgaaaaGreat
open Go.ChangeShapes Go.WideShapes Go.ChangeAt Go.RowKit Go.Joins
open Go.ChangeMaps (open_string)
def types_clear:List TypeId:=[33,4,3,31,5,30,28,9,27,96,94,153,25,93,159,92,157,26,90,88,151,24,22,129,127]
theorem zn11:∀t∈types_clear,closedAt Tryz.prog types_clear t=true:=List.all_eq_true.1 (by kernel_rfl)
set_option maxRecDepth 100000 in
theorem zo11 (os:Os)(started:os.Started)(H:Type)(enc:TypeId×Value→H) :
 ReturnsInHanded {} Tryz.checked os 3 .any (Rows.fnExactClearSpec.pre6 enc Tryz.prog Tryz.f3 Rows.fnExactClearRow.domain false) (Rows.fnExactClearSpec.post enc Tryz.prog Tryz.f3 false true false false):=by
 refine zc14 (fn:=Tryz.f3) started H enc (by kernel_rfl) Tryz.func3 (by kernel_rfl) rfl Tryz.underlying4 (zq21 rfl fun _ _=>rfl)
  (ChangeSpec.witness6 (enc:=enc) (C:=Tryz.checked) false ⟨#[],#[.agg #[.slice none 0 0,.slice none 0 0,.slice none 0 0,.slice none 0 0,.string ByteArray.empty,.slice none 0 0,.int .i64 0,.slice none 0 0,.int .i64 0,.int .i64 0,.int .i64 0,.int .i64 0,.bool false]],[]⟩ 8 (by kernel_rfl) (by kernel_rfl) (by kernel_rfl) (by kernel_rfl)) ?_
 intro W base args ds ps hval hA _
 rw [Tryz.params3] at hA hval
 obtain⟨v0,vs0,d0,ds0,p0,q0,hargs,rfl,rfl,h0,r0⟩:=trodAll_cons hA
 obtain⟨rfl,rfl,rfl⟩:=trodAll_nil r0
 obtain rfl:args=#[v0]:=by cases args;simp_all
 obtain⟨e0,rfl,t0,n0⟩:=zr11 zn11 (by decide) Tryz.underlying33 (hval 0 33 v0 rfl rfl) h0
 exact zq18 W t0 n0
theorem clear_holds:Rows.FnExactClearSaid :=
 OpenClaim.holds_of_wide 3 Tryz.f3 rfl rfl rfl rfl rfl rfl rfl ⟨rfl,rfl,rfl,rfl,rfl⟩ rfl rfl rfl rfl rfl (by kernel_rfl) Tryz.func3 (by kernel_rfl)
  (of_decide_eq_true (by kernel_rfl)) (by unfold Func.isWrapper;first|(rw [if_pos (by decide +kernel)];kernel_rfl)|(rw [if_neg (by decide +kernel)];exact⟨rfl,rfl⟩))
  (fun os started H enc _=>zo11 os started H enc)
#print axioms clear_holds
end Go.Proofs.YtfemkmnkofgaaaaGreat
