/- T -/
import Derived.Test.YtomolhbkdhjofaaGreatDoorTie
import Derived.Test.YtomolhbkdhjofaaGreatDoorCards
import Derived.SevenTiedAt
import Derived.Test.YtomolhbkdhjofaaGreatDoorParXAR
set_option maxHeartbeats 0
set_option maxRecDepth 100000
namespace Go.Proofs.YtomolhbkdhjofaaGreatDoor
open Go.ChangeShapes Go.WideShapes Go.ChangeAt Go.RowKit Go.Joins Go.Proofs.Tryz
open Go.ChangeMaps (open_string)
def g9:List TypeId:=[]
theorem ue:∀t∈g9,ye prog g9 t=true:=List.all_eq_true.1 (by kernel_rfl)
theorem kr (os:Os)(started:os.Started)(H:Type)(enc:TypeId×Value→H) :
 ReturnsInHanded {} Tryz.checked os 4 .any (fun w args=>(Rows.fnExactParseExprSpec.pre enc prog Tryz.f4 [] false w args∧laidMetH prog pT w)∧sizedMet enc prog Tryz.f4 (OpenSpec.ofChange Rows.fnExactParseExprSpec) false w args) (Rows.fnExactParseExprSpec.post enc prog Tryz.f4 false true false false):=by
 refine kK (fn:=Tryz.f4) started H enc (by kernel_rfl) func4 (by kernel_rfl) rfl underlying4 (zg6 rfl fun _ _=>rfl)
  #[.string ByteArray.empty] (by kernel_rfl) (by kernel_rfl) (by kernel_rfl) ?_
 intro W base args ds ps gw hval hA _
 rw [Tryz.params4] at hA hval
 obtain⟨v0,vs0,d0,ds0,p0,q0,hargs,rfl,rfl,h0,r0⟩:=trodAll_cons hA
 obtain⟨rfl,rfl,rfl⟩:=trodAll_nil r0
 obtain rfl:args=#[v0]:=by cases args;simp_all
 obtain⟨a0,rfl,rfl,rfl,g0⟩:=open_string underlying9 (hval 0 9 v0 rfl rfl) h0
 unfold maxLen at g0
 exact oq W a0 g0 gw
theorem ot:Rows.FnExactParseExprSaid :=
 OpenClaim.holds_of_wide 4 Tryz.f4 rfl rfl rfl rfl rfl rfl rfl ⟨rfl,rfl,rfl,rfl,rfl⟩ rfl rfl rfl rfl rfl (by kernel_rfl) func4 (by kernel_rfl)
  (of_decide_eq_true (by kernel_rfl)) (by unfold Func.isWrapper;first|(rw [if_pos (by decide +kernel)];kernel_rfl)|(rw [if_neg (by decide +kernel)];exact⟨rfl,rfl⟩))
  (fun os started H enc _=>kr os started H enc)
theorem parseExpr_holds:Rows.FnExactParseExprCardSaid :=
 Claim7.holds_tied_plain_at .later [] [.data,.data,.data,.sentinel,.sentinel] true (true,"5b9b5ed11d9e66fd7db8c4093a7c48cf5d551f749458a57a13fd6d6ac38b6dcf") true
  ot (fun _ h=>by cases h) (by kernel_rfl) (fun _ h=>by cases h) fnExactParseExpr_row_tie rfl ⟨rfl,rfl⟩ (by kernel_rfl) rfl
  (fun f fn hf hfn=>by
    obtain rfl:f=4:=Option.some.inj ((show prog.funcNamed "loop.example/g00288/laws.FnExactParseExpr"=some 4 by kernel_rfl).symm.trans hf) |>.symm
    obtain rfl:fn=Tryz.f4:=(Option.some.inj (func4.symm.trans hfn)).symm
    exact⟨by kernel_rfl,fun j t ht=>by
     rw [Tryz.params4] at ht
     have hm:t∈[9]:=by simpa using Array.mem_of_getElem? ht
     have hall:([9].all fun u=>!prog.wantsStandIn u)=true:=by kernel_rfl
     exact (show prog.wantsStandIn t=false by simpa using List.all_eq_true.1 hall t hm)⟩)
  (by kernel_rfl)
#print axioms parseExpr_holds
end Go.Proofs.YtomolhbkdhjofaaGreatDoor
