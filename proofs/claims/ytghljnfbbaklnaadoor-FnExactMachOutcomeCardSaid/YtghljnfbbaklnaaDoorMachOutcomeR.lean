/- MachOutcome of both sides. -/
import Derived.Test.YtghljnfbbaklnaaDoorMachOutcomeQ
namespace Go.Proofs.YtghljnfbbaklnaaDoor
open Go.RowKit
set_option maxRecDepth 100000
def outM : E → ByteArray
  | .agg [_, _, _, _, _, _, .lst _ _ _ _ l, _, .int _ s, .int _ f, .int _ x, _] => outT (bytE l) s f x
  | _ => ByteArray.empty
set_option maxHeartbeats 1000000 in
theorem zc5 {l5 : List E} (hl : ∀ e ∈ l5, ∃ z, e = .int .u8 z) (hsz : l5.length ≤ 1048576) (x8 x9 x10 : Int) (b9 : -9223372036854775808 ≤ x9 ∧ x9 ≤ 9223372036854775807) (b10 : -9223372036854775808 ≤ x10 ∧ x10 ≤ 9223372036854775807) : Ctr Tryd.prog 15 [.ag [.v (.slice none 0 0), .v (.slice none 0 0), .v (.string ByteArray.empty), .v (.slice none 0 0), .v (.int .i64 0), .ro l5.length 1 (acL l5), .v (.int .i64 0), .v (.int .i64 0), .v (.int .i64 x8), .v (.int .i64 x9), .v (.int .i64 x10)]] [] (.c (.v (.string (outT (bytE l5) x8 x9 x10)))) [] := by
  have z1 := zl3 (n := x9) (by omega) (by omega)
  have z2 := zl3 (n := x10) (by omega) (by omega)
  have z3 := ze9 l5
  have z4 : (ByteArray.mk (bytE l5).toArray).size = l5.length := by show (bytE l5).toArray.size = _; rw [List.size_toArray]; exact z3
  have c1 := zt11 x9.natAbs x9 (by omega) (by omega) (by omega)
  have c2 := zt11 x10.natAbs x10 (by omega) (by omega) (by omega)
  refine zg3 Tryd.func15 rfl rfl ?_
  repeat' (first | refine zq2 ?_ | refine zm1 ?_ | refine zw1 ?_ | refine zx1 ?_ | refine zw fun C => ?_ | refine zy (by kernel_rfl) (by kernel_rfl) fun C => ?_ | refine zz1 ?_ | (refine x_gm ?_ ?_ <;> intro hG <;> (try cases hG)) | refine zr4 ?_ | refine zu6 ?_ | refine zv6 ?_ | refine x_bs ?_ | refine x_gr ?_ | refine x_st ?_ | refine x_mv ?_ | refine x_sk ?_ | refine zs5 ?_ | refine x_ix ?_ | refine zt5 ?_ | refine zu5 ?_ | refine zv2 ?_ | refine zv2 (hnu := zq _) ?_ | refine zu1 ?_ | refine zu1 (hnu := zq _) ?_ | refine x_ld ?_ | refine zt6 ?_ | refine zm9 c1 ?_ | refine zm9 c2 ?_ | (refine zy1 (by rfl) ?_ ?_ <;> intro hC <;> (try cases hC)))
  all_goals first
    | (exfalso; simp_all; done)
    | (refine zp2 ?_
       refine ret0 rfl zv5 ⟨?_, rfl⟩
       refine congrArg (fun s => AV.c (AC.v (Value.string s))) ?_
       simp at *
       simp [outT, exT, faT, *]; done)
theorem zq3 {e : E} (he : e.Ty Tryd.prog 43) (hsz : e.sz ≤ 1048576) : Ctr Tryd.prog 5 [.ag (acE e)] [] (.c (.v (.string (outM e)))) [] := by
  obtain ⟨x0A, x0c, x0l, x1A, x1c, x1l, x2A, x2c, x2l, x3A, x3c, x3l, x4, x5A, x5c, x5l, x6, x7A, x7c, x7l, x8, x9, x10, x11, x12, rfl, -, -, -, -, -, -, -, ⟨a7, ka7⟩, g8, g9, g10, g11, -⟩ := zr he
  simp only [E.sz, E.szL] at hsz
  have hl : ∀ e ∈ x7l, ∃ z, e = .int .u8 z := fun e he => by
    obtain ⟨z, rfl, _⟩ := (a7 e he).int_ Tryd.underlying5
    exact ⟨z, rfl⟩
  have c1 := zc5 hl (by omega) x9 x10 x11 (zw2 g10) (zw2 g11)
  rw [show outM _ = outT (bytE x7l) x9 x10 x11 from rfl]
  refine zg3 Tryd.func5 rfl rfl ?_
  repeat' (first | refine zq2 ?_ | refine zm1 ?_ | refine zw1 ?_ | refine zx1 ?_ | refine zw fun C => ?_ | refine zy (by kernel_rfl) (by kernel_rfl) fun C => ?_ | refine zz1 ?_ | (refine x_gm ?_ ?_ <;> intro hG <;> (try cases hG)) | refine zr4 ?_ | refine zu6 ?_ | refine zv6 ?_ | refine x_bs ?_ | refine x_gr ?_ | refine x_st ?_ | refine x_mv ?_ | refine x_sk ?_ | refine zs5 ?_ | refine x_ix ?_ | refine zt5 ?_ | refine zu5 ?_ | refine zv2 ?_ | refine zv2 (hnu := zq _) ?_ | refine zu1 ?_ | refine zu1 (hnu := zq _) ?_ | refine x_ld ?_ | refine zt6 ?_ | refine zm9 c1 ?_ | (refine zy1 (by rfl) ?_ ?_ <;> intro hC <;> (try cases hC)))
  refine zp2 ?_
  exact ret0 rfl zv5 ⟨rfl, rfl⟩
theorem zr3 {e : E} (he : e.Ty Tryd.prog 43) (hsz : e.sz ≤ 1048576) : Ctr Tryd.prog 7 [.ag (acE e)] [] (.c (.v (.string (outM e)))) [] := by
  obtain ⟨x0A, x0c, x0l, x1A, x1c, x1l, x2A, x2c, x2l, x3A, x3c, x3l, x4, x5A, x5c, x5l, x6, x7A, x7c, x7l, x8, x9, x10, x11, x12, rfl, -, -, -, -, -, -, -, ⟨a7, ka7⟩, g8, g9, g10, g11, -⟩ := zr he
  simp only [E.sz, E.szL] at hsz
  have hl : ∀ e ∈ x7l, ∃ z, e = .int .u8 z := fun e he => by
    obtain ⟨z, rfl, _⟩ := (a7 e he).int_ Tryd.underlying5
    exact ⟨z, rfl⟩
  have c1 := zb12 (n := x7l.length) rfl hl x9 x10 x11 (zw2 g10) (zw2 g11) (by omega)
  rw [show outM _ = outT (bytE x7l) x9 x10 x11 from rfl]
  refine zg3 Tryd.func7 rfl rfl ?_
  repeat' (first | refine zq2 ?_ | refine zm1 ?_ | refine zw1 ?_ | refine zx1 ?_ | refine zw fun C => ?_ | refine zy (by kernel_rfl) (by kernel_rfl) fun C => ?_ | refine zz1 ?_ | (refine x_gm ?_ ?_ <;> intro hG <;> (try cases hG)) | refine zr4 ?_ | refine zu6 ?_ | refine zv6 ?_ | refine x_bs ?_ | refine x_gr ?_ | refine x_st ?_ | refine x_mv ?_ | refine x_sk ?_ | refine zs5 ?_ | refine x_ix ?_ | refine zt5 ?_ | refine zu5 ?_ | refine zv2 ?_ | refine zv2 (hnu := zq _) ?_ | refine zu1 ?_ | refine zu1 (hnu := zq _) ?_ | refine x_ld ?_ | refine zt6 ?_ | refine zm9 c1 ?_ | (refine zy1 (by rfl) ?_ ?_ <;> intro hC <;> (try cases hC)))
  refine zp2 ?_
  exact ret0 rfl zv5 ⟨rfl, rfl⟩
noncomputable def outmP (x : E) : ByteArray := liftS (fun q : E => (q.Ty Tryd.prog 43 ∧ q.d = x)) (fun q => (outM q)) ByteArray.empty
noncomputable def outmD (x : E) : ByteArray := (outmP x)
theorem zf9 {f : FuncId} (hf : ∀ {x : E} (_ : x.Ty Tryd.prog 43) (_ : x.sz ≤ 1048576), Ctr Tryd.prog f [avI x] [] (.c (.v (.string (outM x)))) []) {x : E} (hx : x.Ty Tryd.prog 43) (w : World) (ix : x.In w) (zx : x.sz ≤ 1048576) (gw : Gl w := by (first | assumption | exact gl_any _ | exact Gl.below_ gl0 (by exact (by repeat (first | (with_reducible refine Below.setCell ?_ (by first | omega | (· simp) | (· (simp; omega))) _) | (with_reducible refine Below.alloc ?_ (by first | omega | (· simp) | (· (simp; omega))) _) | (with_reducible refine Below.drew ?_) | (with_reducible refine zj ?_ _) | (with_reducible exact Below.refl _ _) | (with_reducible assumption) | (with_reducible refine Below.trans ?_ (Below.mono (by assumption) (by first | omega | (· simp) | (· (simp; omega))))) | (with_reducible refine Below.trans ?_ (Kp.below (by assumption) (by first | omega | (· simp) | (· (simp; omega))) (by first | omega | (· simp) | (· (simp; omega)))))))))) :
    Calls Tryd.prog f #[x.val] w fun r w' => r = .returned (.string (outmD x.d)) ∧ Below w.heap.size w w' := by
  obtain ⟨q, hq, hl⟩ := zw12 (R := fun q : E => (q.Ty Tryd.prog 43 ∧ q.d = x.d)) (f := fun q => (outM q)) (z := ByteArray.empty) (a := x) ⟨hx, rfl⟩
  obtain ⟨tx, dx⟩ := hq
  try dsimp only at hl tx dx
  have hc := hf tx (by rw [← E.sz_d, dx, E.sz_d]; exact zx)
  rw [zx12 tx hx dx] at hc
  have hP : outmP x.d = (outM q) := hl
  have hr0 : outmD x.d = (outM q) := by unfold outmD; rw [hP]
  rw [hr0]
  exact zj14 hc (us := [x.val]) (VRL_cons (zz14 hx ix) VRL_nil)
theorem zs3 {x : E} (hx : x.Ty Tryd.prog 43) (w : World) (ix : x.In w) (zx : x.sz ≤ 1048576) (gw : Gl w := by (first | assumption | exact gl_any _ | exact Gl.below_ gl0 (by exact (by repeat (first | (with_reducible refine Below.setCell ?_ (by first | omega | (· simp) | (· (simp; omega))) _) | (with_reducible refine Below.alloc ?_ (by first | omega | (· simp) | (· (simp; omega))) _) | (with_reducible refine Below.drew ?_) | (with_reducible refine zj ?_ _) | (with_reducible exact Below.refl _ _) | (with_reducible assumption) | (with_reducible refine Below.trans ?_ (Below.mono (by assumption) (by first | omega | (· simp) | (· (simp; omega))))) | (with_reducible refine Below.trans ?_ (Kp.below (by assumption) (by first | omega | (· simp) | (· (simp; omega))) (by first | omega | (· simp) | (· (simp; omega)))))))))) :
    Calls Tryd.prog 5 #[x.val] w fun r w' => r = .returned (.string (outmD x.d)) ∧ Below w.heap.size w w' :=
  (zf9 (f := 5) (fun hx zx => by have hcc := zq3 hx zx; obtain ⟨xF, rfl, -⟩ := hx.agg_ Tryd.underlying43; exact hcc) hx w ix zx gw).mono fun _ _ h => h
theorem zt3 {x : E} (hx : x.Ty Tryd.prog 43) (w : World) (ix : x.In w) (zx : x.sz ≤ 1048576) (gw : Gl w := by (first | assumption | exact gl_any _ | exact Gl.below_ gl0 (by exact (by repeat (first | (with_reducible refine Below.setCell ?_ (by first | omega | (· simp) | (· (simp; omega))) _) | (with_reducible refine Below.alloc ?_ (by first | omega | (· simp) | (· (simp; omega))) _) | (with_reducible refine Below.drew ?_) | (with_reducible refine zj ?_ _) | (with_reducible exact Below.refl _ _) | (with_reducible assumption) | (with_reducible refine Below.trans ?_ (Below.mono (by assumption) (by first | omega | (· simp) | (· (simp; omega))))) | (with_reducible refine Below.trans ?_ (Kp.below (by assumption) (by first | omega | (· simp) | (· (simp; omega))) (by first | omega | (· simp) | (· (simp; omega)))))))))) :
    Calls Tryd.prog 7 #[x.val] w fun r w' => r = .returned (.string (outmD x.d)) ∧ Below w.heap.size w w' :=
  (zf9 (f := 7) (fun hx zx => by have hcc := zr3 hx zx; obtain ⟨xF, rfl, -⟩ := hx.agg_ Tryd.underlying43; exact hcc) hx w ix zx gw).mono fun _ _ h => h
end Go.Proofs.YtghljnfbbaklnaaDoor
