/- T -/
import Derived.LaidMore
import Derived.LaidLaws
import Derived.LaidHandle
import Derived.Handed
import Derived.Stop.Joined
import Derived.Stop.LaidErr
import Derived.Test.YtomolhbkdhjofaaGreatDoorParXB
set_option maxHeartbeats 0
set_option maxRecDepth 100000
namespace Go.Proofs.YtomolhbkdhjofaaGreatDoor
open Go.ChangeShapes Go.WideShapes Go.ChangeAt Go.RowKit Go.Proofs.Tryz
def laidR:List (String×DataW Unit):=[("strconv.ErrRange",Rows.laid_strconv_ErrRange),("strconv.ErrSyntax",Rows.laid_strconv_ErrSyntax)]
def pT:List (String×DataW Unit):=("math/bits.deBruijn32tab",Rows.laid_math_bits_deBruijn32tab) :: ("math/bits.deBruijn64tab",Rows.laid_math_bits_deBruijn64tab) :: ("internal/strconv.uint64pow10",Rows.laid_internal_strconv_uint64pow10) :: laidR
def ur:Nat:=400
theorem yf (os:Os)(args:Array Value):laidMetH prog pT ((World.doorLaid prog ur os).forCall (fun _ _=>0) ⟨#[],args,[]⟩).memory :=
 laidMetH_of_parts3 (fuel:=8) (laidMet_of_run' 8 (by kernel_rfl) (by kernel_rfl)) (by kernel_rfl) (by kernel_rfl)
theorem sM {W:World}(h:laidMetH prog pT W):Gl W:=by
 have h1:laidMet prog pT W:=h
 have h2:=laidMet.tail (laidMet.tail h1)
 have h3:laidMet prog (("internal/strconv.uint64pow10",Lib.tabData .u64 Lib.pow10Tab) :: laidR) W:=h2
 have hg:(prog).globalNamed "internal/strconv.uint64pow10"=some 3:=by kernel_rfl
 have h4:Lib.TabIs prog W "internal/strconv.uint64pow10" .u64 Lib.pow10Tab:=Lib.tabIs_of_head (t:=165) (e:=141) (n:=20) hg (by kernel_rfl) (by kernel_rfl) underlying141 (by kernel_rfl) (by kernel_rfl) h3
 have hA:∀p∈gvsA,∃cs T fr,W.heap[p.1]? = some (.cells cs T fr)∧p.2 cs:=fun p hp=>by
  obtain rfl:=List.mem_singleton.1 hp
  unfold Lib.TabIs World.var? at h4
  rw [hg] at h4
  simp only [Option.bind_some] at h4
  split at h4
  ·rename_i cs T fr he
   injection h4 with h4
   subst h4
   exact⟨_,_,_,he,rfl⟩
  ·cases h4
 have hB:∀p∈gvsB,∃cs T fr,W.heap[p.1]? = some (.cells cs T fr)∧p.2 cs:=fun p hp=>by
  obtain rfl:=List.mem_singleton.1 hp
  obtain⟨ps,⟨g0,t0,cs0,f0,p0,q0,hg0,ht0,hv0,hd0,_,e0⟩,_,_⟩:=laidMet.tail h3
  have hgE:(prog).globalNamed "strconv.ErrRange"=some 2:=by kernel_rfl
  have htE:((prog).globals[2]?).map (·.type)=some 83:=by kernel_rfl
  obtain rfl:=Option.some.inj (hgE.symm.trans hg0)
  obtain rfl:=Option.some.inj (htE.symm.trans ht0)
  obtain⟨l0⟩:=cs0
  obtain⟨_,u,v,e1,_,_⟩:=iface_of_trod underlying83 hd0
  have e1':l0=[.iface u v]:=e1
  subst e1'
  unfold World.var? at hv0
  rw [hgE] at hv0
  simp only [Option.bind_some] at hv0
  split at hv0
  ·rename_i cs T fr he
   injection hv0 with hv0
   subst hv0
   exact⟨_,_,_,he,u,v,rfl⟩
  ·cases hv0
 exact fun p hp=>(List.mem_append.1 hp).elim (hA p) (hB p)
theorem kK {f:FuncId}{fn:Func}{s:ChangeSpec}{tb:TypeId}{os:Os}(started:os.Started)(H:Type)(enc:TypeId×Value→H)
 (noInit:Tryz.checked.prog.inits.idxOf? f=none) (hfn:Tryz.checked.prog.funcs[f]? = some fn)
 (hread:fn.params.toList.all (fun t=>prog.readableRec t&&decide (t<prog.types.size))=true)
 (hr:fn.resultTypes=#[tb]) (hB:prog.underlying tb=some .bool) (hs:IsLaw s fn.params.toList.length)
 (args0:Array Value)
 (hok:Input.okWideB Tryz.checked.prog ((World.doorLaid prog ur os).forCall (fun _ _=>0) ⟨#[],args0,[]⟩) f ⟨#[],args0,[]⟩=true)
 (hpre:s.preB enc Tryz.checked.prog fn [] false ((World.doorLaid prog ur os).forCall (fun _ _=>0) ⟨#[],args0,[]⟩).memory args0 8=true)
 (hsz:s.sizedB enc Tryz.checked.prog fn false ((World.doorLaid prog ur os).forCall (fun _ _=>0) ⟨#[],args0,[]⟩).memory args0 8=true)
 (walk:∀(W:World) (base:Nat) (args:Array Value) (ds:List (DataW H)) (ps:List MemPlace),Gl W →
   (∀(j:Nat) t v,fn.params[j]? = some t→args[j]? = some v→Value.okWide prog W .any base t v) →
   DataW.TrodAll enc prog W 0 (fun _=>true) true fn.params.toList args.toList ds ps →
   (DataW.weightsEach prog fn.params.toList ds).all (·≤ reachBytes)=true →
   Calls prog f args W fun e W'=>e=.returned (.bool true)∧Below W.heap.size W W') :
 ReturnsInHanded {} Tryz.checked os f .any (fun w args=>(s.pre enc prog fn [] false w args∧laidMetH prog pT w)∧sizedMet enc prog fn (OpenSpec.ofChange s) false w args) (s.post enc prog fn false true false false):=by
 refine returnsInHanded_of_change_and (C:=Tryz.checked) (X:=fun w _=>laidMetH prog pT w) (fun _ _ _ hh h=>h.of_heap hh) own started noInit hfn
  (ChangeSpec.witness_shaped (enc:=enc) (C:=Tryz.checked) (os:=os) (X:=fun w _=>laidMetH prog pT w) false (World.doorLaid prog ur os) args0 8 rfl (World.shaped_of_RefB (by kernel_rfl) (by kernel_rfl)) hok hpre hsz (yf os _)) ?_
 intro W base args ds gs before hval hW _ hsz hL _
 have hread':∀t∈fn.params.toList,prog.readableRec t=true∧t<prog.types.size:=fun t ht=>by
  have h:=List.all_eq_true.1 hread t ht
  rw [Bool.and_eq_true] at h
  exact⟨h.1,of_decide_eq_true h.2⟩
 obtain⟨p,q,hA,hV,_,_,_⟩:=id hW
 rw [hs.1] at hV
 obtain⟨rfl,rfl⟩:=trodVars_none hV
 refine yd (P:=prog) zr2 hread' hr hB hs hW (walk W base args ds p (sM hL) hval hA ?_)
 have e:s.plain.varTypes Tryz.checked.prog=[]:=by
  have:s.plain.vars=[]:=hs.1
  simp [DataSpec.varTypes,this]
 rw [e,List.append_nil,List.append_nil] at hsz
 exact hsz
end Go.Proofs.YtomolhbkdhjofaaGreatDoor
