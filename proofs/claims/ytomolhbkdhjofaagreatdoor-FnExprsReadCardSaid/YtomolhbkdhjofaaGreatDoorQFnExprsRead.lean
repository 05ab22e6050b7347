/- T -/
import Derived.Test.YtomolhbkdhjofaaGreatDoorTie
import Derived.Test.YtomolhbkdhjofaaGreatDoorCards
import Derived.SevenTiedAt
import Derived.Test.YtomolhbkdhjofaaGreatDoorExRAJ
set_option maxHeartbeats 0
set_option maxRecDepth 100000
namespace Go.Proofs.YtomolhbkdhjofaaGreatDoor
open Go.ChangeShapes Go.WideShapes Go.ChangeAt Go.RowKit Go.Joins Go.Proofs.Tryz
open Go.ChangeMaps (open_string)
theorem jX (os:Os)(started:os.Started)(H:Type)(enc:TypeId×Value→H) :
 ReturnsInHanded {} Tryz.checked os 5 .any (fun w args=>(Rows.fnExprsReadSpec.pre enc prog Tryz.f5 [] false w args∧laidMetH prog qo w)∧sizedMet enc prog Tryz.f5 (OpenSpec.ofChange Rows.fnExprsReadSpec) false w args) (Rows.fnExprsReadSpec.post enc prog Tryz.f5 false true false false):=by
 refine lG (fn:=Tryz.f5) started H enc krq func5 krq rfl underlying4 (ze7 rfl fun _ _=>rfl)
  #[.slice none 0 0] krq krq krq ?_
 intro W base args ds ps gw hval hA _
 rw [Tryz.params5] at hA hval
 obtain⟨v0,vs0,d0,ds0,p0,q0,hargs,rfl,rfl,h0,r0⟩:=trodAll_cons hA
 obtain⟨rfl,rfl,rfl⟩:=trodAll_nil r0
 obtain rfl:args=#[v0]:=by cases args;simp_all
 obtain⟨A0,l0,c0,rfl⟩:=okWide_slice underlying22 (hval 0 22 v0 rfl rfl)
 obtain⟨fu0,hf0⟩:=h0
 obtain⟨a0,s0,_⟩:=yG underlying22 underlying5 krq (v:=.slice A0 l0 c0) hf0
 obtain rfl:=s0.len_eq
 exact yw (oR s0.len_le) s0 gw
theorem mV:Rows.FnExprsReadSaid :=
 OpenClaim.holds_of_wide 5 Tryz.f5 rfl rfl rfl rfl rfl rfl rfl ⟨rfl,rfl,rfl,rfl,rfl⟩ rfl rfl rfl rfl rfl krq func5 krq
  (of_decide_eq_true krq) (by unfold Func.isWrapper;first|(rw [if_pos (by decide +kernel)];kernel_rfl)|(rw [if_neg (by decide +kernel)];exact⟨rfl,rfl⟩))
  (fun os started H enc _=>jX os started H enc)
theorem fnExprsRead_holds:Rows.FnExprsReadCardSaid :=
 Claim7.holds_tied_plain_at .later [] [.data,.data,.data,.sentinel,.sentinel] true (true,"5b9b5ed11d9e66fd7db8c4093a7c48cf5d551f749458a57a13fd6d6ac38b6dcf") true
  mV (fun _ h=>by cases h) krq (fun _ h=>by cases h) fnExprsRead_row_tie rfl ⟨rfl,rfl⟩ krq rfl
  (fun f fn hf hfn=>by
    obtain rfl:f=5:=Option.some.inj ((show prog.funcNamed "loop.example/g00288/laws.FnExprsRead"=some 5 by kernel_rfl).symm.trans hf) |>.symm
    obtain rfl:fn=Tryz.f5:=(Option.some.inj (func5.symm.trans hfn)).symm
    exact⟨by kernel_rfl,fun j t ht=>by
     rw [Tryz.params5] at ht
     have hm:t∈[22]:=by simpa using Array.mem_of_getElem? ht
     have hall:([22].all fun u=>!prog.wantsStandIn u)=true:=by kernel_rfl
     exact (show prog.wantsStandIn t=false by simpa using List.all_eq_true.1 hall t hm)⟩)
  krq
#print axioms fnExprsRead_holds
end Go.Proofs.YtomolhbkdhjofaaGreatDoor
