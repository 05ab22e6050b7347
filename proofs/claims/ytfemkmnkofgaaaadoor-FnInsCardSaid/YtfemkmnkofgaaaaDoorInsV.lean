/- A law of drawn bytes: from the machine's contract to the row. -/
import Derived.Test.YtfemkmnkofgaaaaDoorInsU
namespace Go.Proofs.YtfemkmnkofgaaaaDoor
open Go.RowKit
theorem zv6 {w : World} {St : Nat → Prop} {φ : Nat → Lc} {K : Nat → Prop} : ∀ bs : List UInt8, CRL w St φ K (acL (bE8 bs)) (bs.map fun b => .int .u8 b.toNat) []
  | [] => CRL.nil
  | b :: r => by
    show CRL w St φ K (.v (.int .u8 (b.toNat : Int)) :: acL (bE8 r)) (.int .u8 b.toNat :: r.map fun b => .int .u8 b.toNat) ([] ++ [])
    exact CRL.cons (by simp only [CR]; exact ⟨trivial, rfl, trivial⟩) (zv6 r)
theorem zh22 {w : World} {A : Option Addr} {n c : Nat} {bs : List UInt8} (h : Rd w 1 encB (.slice A n c) bs) : VR w (fun b => b < w.heap.size) φ0 K0 (.c (.ro bs.length 1 (acL (bE8 bs)))) (.slice A bs.length c) := by
  obtain ⟨A', c', he, h1, ⟨h2, h3⟩, h4⟩ := h
  injection he with e1 e2 e3
  subst e1 e2 e3
  simp only [VR, CR]
  refine ⟨trivial, A, c, rfl, ⟨h1, h2, h3⟩, by rw [show (acL (bE8 bs)).length = bs.length from by have := (zv6 (w := w) (St := fun _ => True) (φ := φ0) (K := K0) bs).len; simp at this; omega]; omega, fun hn => ?_⟩
  obtain ⟨b, o, rfl, -, hlt, hc⟩ := h4 hn
  refine ⟨b, o, _, rfl, hlt, hlt, fun i x hx => ?_, zv6 bs⟩
  rw [List.getElem?_map] at hx
  have hi : i < bs.length := by
    rcases Nat.lt_or_ge i bs.length with h | h
    · exact h
    · rw [List.getElem?_eq_none h] at hx; cases hx
  rw [List.getElem?_eq_getElem hi] at hx
  have := hc i hi 0 x (by simpa [encB] using hx)
  simpa using this
theorem zs16 {f : FuncId} {w : World} {A : Option Addr} {c : Nat} {bs : List UInt8} (h : Ctr Tryd.prog f [.c (.ro bs.length 1 (acL (bE8 bs)))] [] (.c (.v (.bool true))) []) (hs : Rd w 1 encB (.slice A bs.length c) bs) (gw : Gl w := by (first | assumption | exact gl_any _ | exact Gl.below_ gl0 (by exact (by repeat (first | (with_reducible refine Below.setCell ?_ (by first | omega | (· simp) | (· (simp; omega))) _) | (with_reducible refine Below.alloc ?_ (by first | omega | (· simp) | (· (simp; omega))) _) | (with_reducible refine Below.drew ?_) | (with_reducible refine zx2 ?_ _) | (with_reducible exact Below.refl _ _) | (with_reducible assumption) | (with_reducible refine Below.trans ?_ (Below.mono (by assumption) (by first | omega | (· simp) | (· (simp; omega))))) | (with_reducible refine Below.trans ?_ (Kp.below (by assumption) (by first | omega | (· simp) | (· (simp; omega))) (by first | omega | (· simp) | (· (simp; omega)))))))))) :
    Calls Tryd.prog f #[.slice A bs.length c] w fun e w' => e = .returned (.bool true) ∧ Below w.heap.size w w' :=
  zr19 h (us := [.slice A bs.length c]) (VRL_cons (zh22 hs) VRL_nil) gw
end Go.Proofs.YtfemkmnkofgaaaaDoor
