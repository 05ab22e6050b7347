/- FnExactProgText: for all arguments the law returns true (its sentence: the program's ProgText is as the document's reference has it). Conditions: the library's zv6 tables stand as their own initialisers lay them, which the card ties to the program's text. -/
import Derived.Test.YtnjfnhoipnbpeaaGreatDoorTie
import Derived.Test.YtnjfnhoipnbpeaaGreatDoorCards
import Derived.SevenTiedAt
import Derived.Test.YtnjfnhoipnbpeaaGreatDoorTxtPAO
namespace Go.Proofs.YtnjfnhoipnbpeaaGreatDoor
open Go.ChangeShapes Go.WideShapes Go.ChangeAt Go.RowKit Go.Joins
open Go.ChangeMaps (open_string)
def types_progText:List TypeId:=[25,23,63,58,111,55,57,9,3,38,22,60]
theorem zu11:∀t∈types_progText,closedAt Tryz.prog types_progText t=true:=List.all_eq_true.1 (by kernel_rfl)
set_option maxRecDepth 100000 in
theorem zv11 (os:Os)(started:os.Started)(H:Type)(enc:TypeId×Value→H) :
 ReturnsInHanded {} Tryz.checked os 3 .any (fun w args=>(Rows.fnExactProgTextSpec.pre enc Tryz.prog Tryz.f3 [] false w args∧laidMetH Tryz.prog laidL w)∧sizedMet enc Tryz.prog Tryz.f3 (OpenSpec.ofChange Rows.fnExactProgTextSpec) false w args) (Rows.fnExactProgTextSpec.post enc Tryz.prog Tryz.f3 false true false false):=by
 refine zh10 (fn:=Tryz.f3) started H enc (by kernel_rfl) Tryz.func3 (by kernel_rfl) rfl Tryz.underlying4 (isLaw1 rfl fun _ _=>rfl)
  #[.agg #[.slice none 0 0,.slice none 0 0]] (by kernel_rfl) (by kernel_rfl) (by kernel_rfl) ?_
 intro W base args ds ps gw hval hA _
 rw [Tryz.params3] at hA hval
 obtain⟨v0,vs0,d0,ds0,p0,q0,hargs,rfl,rfl,h0,r0⟩:=trodAll_cons hA
 obtain⟨rfl,rfl,rfl⟩:=trodAll_nil r0
 obtain rfl:args=#[v0]:=by cases args;simp_all
 obtain⟨e0,rfl,t0,n0⟩:=zw16 zu11 (by decide) Tryz.underlying25 (hval 0 25 v0 rfl rfl) h0
 exact zs16 W t0 n0 gw
theorem zt16:Rows.FnExactProgTextSaid :=
 OpenClaim.holds_of_wide 3 Tryz.f3 rfl rfl rfl rfl rfl rfl rfl ⟨rfl,rfl,rfl,rfl,rfl⟩ rfl rfl rfl rfl rfl (by kernel_rfl) Tryz.func3 (by kernel_rfl)
  (of_decide_eq_true (by kernel_rfl)) (by unfold Func.isWrapper;first|(rw [if_pos (by decide +kernel)];kernel_rfl)|(rw [if_neg (by decide +kernel)];exact⟨rfl,rfl⟩))
  (fun os started H enc _=>zv11 os started H enc)
theorem progText_holds:Rows.FnExactProgTextCardSaid :=
 Claim7.holds_tied_plain_at .later [] [.data,.data,.data] true (true,"4014dd43915ee21deb92aa8823a422f16a16419d2c026837ef22bc735b73c7cc") false
  zt16 (fun _ h=>by cases h) (by kernel_rfl) (fun _ h=>by cases h) fnExactProgText_row_tie rfl ⟨rfl,rfl⟩ (by kernel_rfl) rfl
  (fun f fn hf hfn=>by
    obtain rfl:f=3:=Option.some.inj ((show Tryz.prog.funcNamed "loop.example/g00288/laws.FnExactProgText"=some 3 by kernel_rfl).symm.trans hf) |>.symm
    obtain rfl:fn=Tryz.f3:=(Option.some.inj (Tryz.func3.symm.trans hfn)).symm
    exact⟨by kernel_rfl,fun j t ht=>by
     rw [Tryz.params3] at ht
     have hm:t∈[25]:=by simpa using Array.mem_of_getElem? ht
     have hall:([25].all fun u=>!Tryz.prog.wantsStandIn u)=true:=by kernel_rfl
     exact (show Tryz.prog.wantsStandIn t=false by simpa using List.all_eq_true.1 hall t hm)⟩)
  (by kernel_rfl)
#print axioms progText_holds
end Go.Proofs.YtnjfnhoipnbpeaaGreatDoor
