/- T -/
import Derived.Test.YtomolhbkdhjofaaGreatDoorTie
import Derived.Test.YtomolhbkdhjofaaGreatDoorCards
import Derived.SevenTiedAt
import Derived.Test.YtomolhbkdhjofaaGreatDoorExAAM
set_option maxHeartbeats 0
set_option maxRecDepth 100000
namespace Go.Proofs.YtomolhbkdhjofaaGreatDoor
open Go.ChangeShapes Go.WideShapes Go.ChangeAt Go.RowKit Go.Joins Go.Proofs.Tryz
open Go.ChangeMaps (open_string)
theorem lL (os:Os)(started:os.Started)(H:Type)(enc:TypeId×Value→H) :
 ReturnsInHanded {} Tryz.checked os 3 .any (fun w args=>(Rows.fnExprsSpec.pre enc prog Tryz.f3 [] false w args∧laidMetH prog o5 w)∧sizedMet enc prog Tryz.f3 (OpenSpec.ofChange Rows.fnExprsSpec) false w args) (Rows.fnExprsSpec.post enc prog Tryz.f3 false true false false):=by
 refine kc (fn:=Tryz.f3) started H enc (by kernel_rfl) func3 (by kernel_rfl) rfl underlying4 (zk3 rfl fun _ _=>rfl)
  #[.slice none 0 0] (by kernel_rfl) (by kernel_rfl) (by kernel_rfl) ?_
 intro W base args ds ps gw hval hA _
 rw [Tryz.params3] at hA hval
 obtain⟨v0,vs0,d0,ds0,p0,q0,hargs,rfl,rfl,h0,r0⟩:=trodAll_cons hA
 obtain⟨rfl,rfl,rfl⟩:=trodAll_nil r0
 obtain rfl:args=#[v0]:=by cases args;simp_all
 obtain⟨A0,l0,c0,rfl⟩:=okWide_slice underlying22 (hval 0 22 v0 rfl rfl)
 obtain⟨fu0,hf0⟩:=h0
 obtain⟨a0,s0,_⟩:=wO underlying22 underlying5 (by kernel_rfl) (v:=.slice A0 l0 c0) hf0
 obtain rfl:=s0.len_eq
 exact wG (wF s0.len_le) s0 gw
theorem qj:Rows.FnExprsSaid :=
 OpenClaim.holds_of_wide 3 Tryz.f3 rfl rfl rfl rfl rfl rfl rfl ⟨rfl,rfl,rfl,rfl,rfl⟩ rfl rfl rfl rfl rfl (by kernel_rfl) func3 (by kernel_rfl)
  (of_decide_eq_true (by kernel_rfl)) (by unfold Func.isWrapper;first|(rw [if_pos (by decide +kernel)];kernel_rfl)|(rw [if_neg (by decide +kernel)];exact⟨rfl,rfl⟩))
  (fun os started H enc _=>lL os started H enc)
theorem fnExprs_holds:Rows.FnExprsCardSaid :=
 Claim7.holds_tied_plain_at .later [] [.data,.data,.data,.sentinel,.sentinel] true (true,"5b9b5ed11d9e66fd7db8c4093a7c48cf5d551f749458a57a13fd6d6ac38b6dcf") true
  qj (fun _ h=>by cases h) (by kernel_rfl) (fun _ h=>by cases h) fnExprs_row_tie rfl ⟨rfl,rfl⟩ (by kernel_rfl) rfl
  (fun f fn hf hfn=>by
    obtain rfl:f=3:=Option.some.inj ((show prog.funcNamed "loop.example/g00288/laws.FnExprs"=some 3 by kernel_rfl).symm.trans hf) |>.symm
    obtain rfl:fn=Tryz.f3:=(Option.some.inj (func3.symm.trans hfn)).symm
    exact⟨by kernel_rfl,fun j t ht=>by
     rw [Tryz.params3] at ht
     have hm:t∈[22]:=by simpa using Array.mem_of_getElem? ht
     have hall:([22].all fun u=>!prog.wantsStandIn u)=true:=by kernel_rfl
     exact (show prog.wantsStandIn t=false by simpa using List.all_eq_true.1 hall t hm)⟩)
  (by kernel_rfl)
#print axioms fnExprs_holds
end Go.Proofs.YtomolhbkdhjofaaGreatDoor
