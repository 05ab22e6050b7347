/- Values that are the same, compared; how great what is drawn may be. -/
import Derived.Test.YtghljnfbbaklnaaVarsR
-- MVP
namespace Go.Proofs.Ytghljnfbbaklnaa
open Go.RowKit
set_option maxRecDepth 100000
theorem zg19 {ops : Array Oper} {Q : Exit → Act → World → Prop} {C : Ctx} {H : List (Nat × Oper × Inf)} {i : Nat} {r : List Nat} {dr : Bool} {tm : Nat → AV} {hp : Nat → Option Row} {gn L : Nat} {us : List Nat} {t : Nat} {ty U : TypeId} {gd : Option (Nat × Bool)} {ps : String} {af : Array Edge} {xo yo : Operand} {a b : Int} {s : ByteArray}
    (h : Walk Try.prog ops Q C dr (keepH dr (i, (⟨some t, .binOp .eql 29 xo yo U, ty, ps, af, gd⟩ : Oper), ⟨fpO (AS.ev ⟨tm, hp, gn, us, L⟩) (⟨some t, .binOp .eql 29 xo yo U, ty, ps, af, gd⟩ : Oper), [], [], .c (.v (.bool true))⟩) H) r ⟨upd tm t (.c (.v (.bool true))), hp, gn, us, L⟩)
    (ht : Nat.blt t L = true := by exact rfl) (hg : gw ops tm (⟨some t, .binOp .eql 29 xo yo U, ty, ps, af, gd⟩ : Oper) = some true := by exact rfl) (hx : AS.ev ⟨tm, hp, gn, us, L⟩ xo = .ag [.v (.int .i64 a), .v (.int .i64 b), .v (.string s)] := by exact rfl) (hy : AS.ev ⟨tm, hp, gn, us, L⟩ yo = .ag [.v (.int .i64 a), .v (.int .i64 b), .v (.string s)] := by exact rfl)
    (hc : chk dr ops i (⟨some t, .binOp .eql 29 xo yo U, ty, ps, af, gd⟩ : Oper) ⟨fpO (AS.ev ⟨tm, hp, gn, us, L⟩) (⟨some t, .binOp .eql 29 xo yo U, ty, ps, af, gd⟩ : Oper), [], [], .c (.v (.bool true))⟩ H = true := by first | (with_reducible exact zk1) | kernel_rfl) : WalkO Try.prog ops Q C dr H i (⟨some t, .binOp .eql 29 xo yo U, ty, ps, af, gd⟩ : Oper) r ⟨tm, hp, gn, us, L⟩ :=
  ⟨fun hop => zq18 (xs := [.int .i64 a, .int .i64 b, .string s]) (ys := [.int .i64 a, .int .i64 b, .string s]) (b := true) (q := true) hop rfl rfl ht hg (by kernel_rfl) (by rw [hx]; rfl) (by rw [hy]; rfl) (fun w => by rw [zm9]; simp) (.inl ⟨rfl, rfl⟩) hc h⟩
theorem zl15 {ops : Array Oper} {Q : Exit → Act → World → Prop} {C : Ctx} {H : List (Nat × Oper × Inf)} {i : Nat} {r : List Nat} {dr : Bool} {tm : Nat → AV} {hp : Nat → Option Row} {gn L : Nat} {us : List Nat} {t : Nat} {ty U : TypeId} {gd : Option (Nat × Bool)} {ps : String} {af : Array Edge} {xo yo : Operand} {a b : Int} {s : ByteArray}
    (h : Walk Try.prog ops Q C dr (keepH dr (i, (⟨some t, .binOp .neq 29 xo yo U, ty, ps, af, gd⟩ : Oper), ⟨fpO (AS.ev ⟨tm, hp, gn, us, L⟩) (⟨some t, .binOp .neq 29 xo yo U, ty, ps, af, gd⟩ : Oper), [], [], .c (.v (.bool false))⟩) H) r ⟨upd tm t (.c (.v (.bool false))), hp, gn, us, L⟩)
    (ht : Nat.blt t L = true := by exact rfl) (hg : gw ops tm (⟨some t, .binOp .neq 29 xo yo U, ty, ps, af, gd⟩ : Oper) = some true := by exact rfl) (hx : AS.ev ⟨tm, hp, gn, us, L⟩ xo = .ag [.v (.int .i64 a), .v (.int .i64 b), .v (.string s)] := by exact rfl) (hy : AS.ev ⟨tm, hp, gn, us, L⟩ yo = .ag [.v (.int .i64 a), .v (.int .i64 b), .v (.string s)] := by exact rfl)
    (hc : chk dr ops i (⟨some t, .binOp .neq 29 xo yo U, ty, ps, af, gd⟩ : Oper) ⟨fpO (AS.ev ⟨tm, hp, gn, us, L⟩) (⟨some t, .binOp .neq 29 xo yo U, ty, ps, af, gd⟩ : Oper), [], [], .c (.v (.bool false))⟩ H = true := by first | (with_reducible exact zk1) | kernel_rfl) : WalkO Try.prog ops Q C dr H i (⟨some t, .binOp .neq 29 xo yo U, ty, ps, af, gd⟩ : Oper) r ⟨tm, hp, gn, us, L⟩ :=
  ⟨fun hop => zq18 (xs := [.int .i64 a, .int .i64 b, .string s]) (ys := [.int .i64 a, .int .i64 b, .string s]) (b := true) (q := false) hop rfl rfl ht hg (by kernel_rfl) (by rw [hx]; rfl) (by rw [hy]; rfl) (fun w => by rw [zm9]; simp) (.inr ⟨rfl, rfl⟩) hc h⟩
theorem zc21 {n : Nat} {l : List AC} (hn : n ≤ 9223372036854775807) : Ctr Try.prog 7 [.c (.ro n 1 l)] [] (.c (.v (.bool (decide (1048576 < (n : Int)))))) [] := by
  refine zt1 Try.func7 rfl rfl ?_
  repeat' (first | ((apply f_wo); first | ((apply f_mv); first | refine zj1 (v := .c _) ?_ | refine za ?_) | ((apply f_as); first | refine zl1 (v := .c _) ?_ | refine za ?_) | ((apply f_bi); first | refine zf3 ?_ | refine ze3 ?_ | refine zg3 ?_ | refine za ?_) | ((apply zt10); first | refine zc5 ?_ | refine za ?_) | refine za ?_) | ((apply f_w); first | refine zb1 ?_ | refine zd ?_) | refine zb fun C => ?_ | refine zl ?_ | refine zf ?_ | refine zh ?_ | refine zi ?_ | (refine zc2 (by rfl) ?_ ?_ <;> intro hC <;> (try cases hC)))
  refine zu ?_; refine ret0 rfl zb5 ⟨?_, rfl⟩
  rfl
end Go.Proofs.Ytghljnfbbaklnaa
