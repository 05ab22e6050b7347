/- ValOk of both sides: contracts of the machine. -/
import Derived.Test.YtfnnbjkjfoiboaaAC
import Derived.Test.YtfnnbjkjfoiboaaHeap2
import Derived.Test.YtfnnbjkjfoiboaaFamVal
namespace Go.Proofs.Ytfnnbjkjfoiboaa
open Go.RowKit
set_option maxRecDepth 100000
def valE (e : E) : Bool := match e with | .agg [.int _ a, .int _ b, .str s] => valOk a b s | _ => false
theorem valE_in {a b : Int} {s : ByteArray} (w : World) (St : Nat → Prop) (φ : Nat → Lc) (K : Nat → Prop) (us' : List Value) (h : VRL w St φ K [.ag (acE (.agg [.int .i64 a, .int .i64 b, .str s]))] us') : us' = [.agg #[.int .i64 a, .int .i64 b, .string s]] := by
  simp only [acE, acL, List.append_nil, List.cons_append, List.nil_append, VRL, VR, CRL, CR] at h
  obtain ⟨u, us1, rfl, ⟨vs, rfl, u1, r1, f1, f1', rfl, e1, ⟨rfl, -, rfl⟩, u2, r2, f2, f2', rfl, rfl, ⟨rfl, -, rfl⟩, u3, r3, f3, f3', rfl, rfl, ⟨rfl, -, rfl⟩, rfl, rfl⟩, rfl⟩ := h
  rfl
theorem implValOk_c {e : E} (he : e.Ty Try.prog 35) : Ctr Try.prog 91 [.ag (acE e)] [] (.c (.v (.bool (valE e)))) [] := by
  obtain ⟨a, b, s, rfl, ga, gb, gs, -⟩ := shape_impl_Val he
  exact ctr_of_calls (by kernel_rfl) rfl valE_in fun w => implValOk_any a b s w (i64_bounds gb)
theorem specValOk_c {e : E} (he : e.Ty Try.prog 35) : Ctr Try.prog 92 [.ag (acE e)] [] (.c (.v (.bool (valE e)))) [] := by
  obtain ⟨a, b, s, rfl, ga, gb, gs, -⟩ := shape_impl_Val he
  exact ctr_of_calls (by kernel_rfl) rfl valE_in fun w => specValOk_any a b s w (i64_bounds gb)
end Go.Proofs.Ytfnnbjkjfoiboaa
