/- A ghost step: what is held stands from now on (it is read alone). A call that gives back part of what it reads. -/
import Derived.Shelf.Lays
import Derived.Shelf.Strings.BuilderX
import Derived.Shelf.Small.Strs
import Derived.Shelf.Strings.OnBuilder
import Derived.Test.YtfemkmnkofgaaaaDoorInsL
namespace Go.Proofs.YtfemkmnkofgaaaaDoor
open Go.RowKit
set_option maxRecDepth 100000
mutual
def fzC : AC → AC
  | .ow _ n k l => .ro n k (fzL l)
  | .bx _ _ => .un
  | .v x => .v x
  | .ro n k l => .ro n k l
  | .sl i n => .sl i n
  | .pt i o => .pt i o
  | .rp l o => .rp l o
  | .fn f c => .fn f c
  | .un => .un
def fzL : List AC → List AC
  | [] => []
  | c :: r => fzC c :: fzL r
end
theorem zj16 : ∀ l : List AC, (fzL l).length = l.length
  | [] => rfl
  | _ :: r => by simp only [fzL, List.length_cons, zj16 r]
section
variable {C : Ctx} {φ : Nat → Lc} {F : Nat → List Nat} {St St' : Nat → Prop} {K : Nat → Prop} {σ : AS} {a : Act} {w w' : World}
theorem CRL.fz_of : ∀ (l : List AC) (us : List Value) (fs : List Nat), (∀ e ∈ l, ∀ (u : Value) (fp : List Nat), (∀ b ∈ fp, St' b) → CR w St φ K e u fp → CR w St' φ K (fzC e) u []) → (∀ b ∈ fs, St' b) → CRL w St φ K l us fs → CRL w St' φ K (fzL l) us []
  | [], us, fs, _, _, h => by simp only [CRL] at h; obtain ⟨rfl, rfl⟩ := h; exact CRL.nil
  | c :: r, us, fs, hh, hf, h => by
    simp only [CRL] at h
    obtain ⟨u, us', f1, f2, rfl, rfl, g1, g2⟩ := h
    exact CRL.cons (f := []) (f' := []) (hh c List.mem_cons_self u f1 (fun b hb => hf b (List.mem_append_left _ hb)) g1) (CRL.fz_of r us' f2 (fun e he => hh e (List.mem_cons_of_mem _ he)) (fun b hb => hf b (List.mem_append_right _ hb)) g2)
theorem CR.fz (hS : ∀ b, St b → St' b) : ∀ (c : AC) (u : Value) (fp : List Nat), (∀ b ∈ fp, St' b) → CR w St φ K c u fp → CR w St' φ K (fzC c) u [] := by
  intro c
  induction c using AC.ind with
  | h1 x => intro u fp _ h; simp only [CR, fzC] at h ⊢; exact ⟨h.1, h.2.1, trivial⟩
  | h2 n k l ih => intro u fp _ h; have h0 := h; simp only [CR] at h0; obtain ⟨rfl, _⟩ := h0; exact CR.sub_ hS _ u [] h
  | h3 T n k l ih =>
    intro u fp hfp h
    have hlt := CR.lt _ _ _ h
    simp only [CR] at h
    obtain ⟨us, fs, h1, h2, rfl⟩ := h
    obtain ⟨hl, h3⟩ := h2
    have hlen : (fzL l).length = n * k := by rw [zj16, ← h1.len, hl]
    have hr := CRL.fz_of (St' := St') l us fs ih (fun b hb => hfp b (List.mem_append_right _ hb)) h1
    simp only [fzC, CR]
    rcases h3 with ⟨rfl, h0⟩ | ⟨b, cap, cur, rfl, -, hh, hnc, hcm, hsz, htk⟩
    · exact ⟨trivial, none, 0, by rw [h0], ⟨by omega, by unfold maxLen; omega, fun _ => rfl⟩, hlen, fun hn => by omega⟩
    · refine ⟨trivial, some ⟨b, 0, none⟩, cap, rfl, ⟨hnc, hcm, fun e => by cases e⟩, hlen, fun _ => ⟨b, 0, us, rfl, hfp b (List.mem_append_left _ (by simp [obl, Value.ownBlock])), hlt b (List.mem_append_left _ (by simp [obl, Value.ownBlock])), fun q y hq => ?_, hr⟩⟩
      have hq2 : cur[q]? = some y := by
        rw [← htk] at hq
        rw [List.getElem?_take] at hq
        split at hq
        · rwa [Array.getElem?_toList] at hq
        · cases hq
      rw [Nat.zero_add]
      unfold World.cell?
      rw [hh]
      exact hq2
  | h4 i n => intro u fp _ h; have h0 := h; simp only [CR] at h0; obtain ⟨rfl, _⟩ := h0; exact CR.sub_ hS _ u [] h
  | h5 i o => intro u fp _ h; have h0 := h; simp only [CR] at h0; obtain ⟨rfl, _⟩ := h0; exact CR.sub_ hS _ u [] h
  | h6 l o ih => intro u fp _ h; have h0 := h; simp only [CR] at h0; obtain ⟨rfl, _⟩ := h0; exact CR.sub_ hS _ u [] h
  | h7 f c ih => intro u fp _ h; have h0 := h; simp only [CR] at h0; obtain ⟨rfl, _⟩ := h0; exact CR.sub_ hS _ u [] h
  | h9 T l ih => intro u fp _ h; simp only [fzC, CR]
  | h8 => intro u fp _ h; simp only [fzC, CR]
end
section
variable {tm : Nat → AV} {hp : Nat → Option Row} {gn L : Nat} {us : List Nat}
end
section
variable {ops : Array Oper} {Q : Exit → Act → World → Prop} {C : Ctx} {i : Nat} {r : List Nat}
variable {tm : Nat → AV} {hp : Nat → Option Row} {gn L : Nat} {us : List Nat}
end
theorem zo5 {z : Int} (h0 : -9223372036854775808 ≤ z) (h : z ≤ 9223372036854775807) : IntKind.i64.wrap z = z := by
  rw [IntKind.wrap_i64]; omega
def inR (x a b : Int) : Bool := decide (a ≤ x) && decide (x ≤ b)
theorem zz17 (x a b : Int) : Ctr Tryd.prog 49 [.c (.v (.int .i64 x)), .c (.v (.int .i64 a)), .c (.v (.int .i64 b))] [] (.c (.v (.bool (inR x a b)))) [] := by
  refine zh1 Tryd.func49 rfl rfl ?_
  repeat' (first | refine zh ?_ | refine zd ?_ | refine zf ?_ | refine zg ?_ | refine zb fun C => ?_ | refine zj (by kernel_rfl) (by kernel_rfl) fun C => ?_ | refine zc ?_ | (refine x_gm ?_ ?_ <;> intro hG <;> (try cases hG)) | refine zr3 ?_ | refine x_bs ?_ | refine x_gr ?_ | refine x_st ?_ | refine x_mv ?_ | refine x_sk ?_ | refine zd5 ?_ | refine x_ix ?_ | refine ze5 ?_ | refine zf5 ?_ | refine zb4 ?_ | refine zo2 ?_ | refine x_ld ?_ | refine zr6 ?_ | (refine zr1 (by rfl) ?_ ?_ <;> intro hC <;> (try cases hC)))
  all_goals
    refine zv ?_
    refine ret0 rfl zs3 ⟨?_, rfl⟩
    refine congrArg (fun s => AV.c (AC.v (Value.bool s))) ?_
    simp at *
    simp [inR, *]
    try omega
theorem zd21 (x a b : Int) : Ctr Tryd.prog 48 [.c (.v (.int .i64 x)), .c (.v (.int .i64 a)), .c (.v (.int .i64 b))] [] (.c (.v (.bool (inR x a b)))) [] := by
  refine zh1 Tryd.func48 rfl rfl ?_
  repeat' (first | refine zh ?_ | refine zd ?_ | refine zf ?_ | refine zg ?_ | refine zb fun C => ?_ | refine zj (by kernel_rfl) (by kernel_rfl) fun C => ?_ | refine zc ?_ | (refine x_gm ?_ ?_ <;> intro hG <;> (try cases hG)) | refine zr3 ?_ | refine x_bs ?_ | refine x_gr ?_ | refine x_st ?_ | refine x_mv ?_ | refine x_sk ?_ | refine zd5 ?_ | refine x_ix ?_ | refine ze5 ?_ | refine zf5 ?_ | refine zb4 ?_ | refine zo2 ?_ | refine x_ld ?_ | refine zr6 ?_ | (refine zr1 (by rfl) ?_ ?_ <;> intro hC <;> (try cases hC)))
  all_goals
    refine zv ?_
    refine ret0 rfl zs3 ⟨?_, rfl⟩
    refine congrArg (fun s => AV.c (AC.v (Value.bool s))) ?_
    simp at *
    simp [inR, *]
    try omega
end Go.Proofs.YtfemkmnkofgaaaaDoor
namespace Go.Proofs.YtfemkmnkofgaaaaDoor
open Go.RowKit
end Go.Proofs.YtfemkmnkofgaaaaDoor
namespace Go.Proofs.YtfemkmnkofgaaaaDoor
open Go.RowKit
end Go.Proofs.YtfemkmnkofgaaaaDoor
namespace Go.Proofs.YtfemkmnkofgaaaaDoor
open Go.RowKit
set_option maxRecDepth 100000
def hasNum (x : Int) : Bool := [2,3,4,5,6,7,13,16,17,18,19,20,21,24,25,32,34,36].any fun y => x == y
def insNms : List ByteArray := [⟨#[116,105,99,107]⟩, ⟨#[99,111,110,115,116]⟩, ⟨#[103,101,116,103]⟩, ⟨#[115,101,116,103]⟩, ⟨#[103,101,116,108]⟩, ⟨#[115,101,116,108]⟩, ⟨#[98,105,110]⟩, ⟨#[110,111,116]⟩, ⟨#[110,101,103]⟩, ⟨#[116,114,117,116,104]⟩, ⟨#[101,113,122]⟩, ⟨#[98,111,111,108]⟩, ⟨#[98,108,111,99,107]⟩, ⟨#[108,111,111,112]⟩, ⟨#[101,110,100]⟩, ⟨#[98,114]⟩, ⟨#[98,114,105,102]⟩, ⟨#[103,101,116,97]⟩, ⟨#[115,101,116,97]⟩, ⟨#[105,110,97]⟩, ⟨#[100,101,108,97]⟩, ⟨#[102,105,101,108,100]⟩, ⟨#[115,101,116,102]⟩, ⟨#[109,97,116,99,104]⟩, ⟨#[103,115,117,98]⟩, ⟨#[108,101,110]⟩, ⟨#[115,117,98]⟩, ⟨#[105,100,120]⟩, ⟨#[117,112]⟩, ⟨#[110,114]⟩, ⟨#[110,102]⟩, ⟨#[99,97,108,108]⟩, ⟨#[114,101,116,117,114,110]⟩, ⟨#[112,114,105,110,116]⟩, ⟨#[100,114,111,112]⟩, ⟨#[105,116,101,114]⟩, ⟨#[109,111,114,101]⟩, ⟨#[116,97,107,101]⟩, ⟨#[100,111,110,101]⟩, ⟨#[101,120,105,116]⟩, ⟨#[110,101,120,116]⟩]
theorem zf8 (x : Int) : Ctr Tryd.prog 42 [.c (.v (.int .i64 x))] [] (.c (.v (.bool (hasNum x)))) [] := by
  refine zh1 Tryd.func42 rfl rfl ?_
  repeat' (first | refine zh ?_ | refine zd ?_ | refine zf ?_ | refine zg ?_ | refine zb fun C => ?_ | refine zj (by kernel_rfl) (by kernel_rfl) fun C => ?_ | refine zc ?_ | (refine x_gm ?_ ?_ <;> intro hG <;> (try cases hG)) | refine zr3 ?_ | refine x_bs ?_ | refine x_gr ?_ | refine x_st ?_ | refine x_mv ?_ | refine x_sk ?_ | refine zd5 ?_ | refine x_ix ?_ | refine ze5 ?_ | refine zf5 ?_ | refine zb4 ?_ | refine zo2 ?_ | refine x_ld ?_ | refine zr6 ?_ | (refine zr1 (by rfl) ?_ ?_ <;> intro hC <;> (try cases hC)))
  all_goals first
    | (exfalso; simp_all; done)
    | (refine zv ?_
       refine ret0 rfl zs3 ⟨?_, rfl⟩
       refine congrArg (fun s => AV.c (AC.v (Value.bool s))) ?_
       simp at *
       simp [hasNum, *]; done)
    | skip
theorem zc10 (x : Int) : Ctr Tryd.prog 44 [.c (.v (.int .i64 x))] [] (.c (.v (.bool (hasNum x)))) [] := by
  refine zh1 Tryd.func44 rfl rfl ?_
  repeat' (first | refine zh ?_ | refine zd ?_ | refine zf ?_ | refine zg ?_ | refine zb fun C => ?_ | refine zj (by kernel_rfl) (by kernel_rfl) fun C => ?_ | refine zc ?_ | (refine x_gm ?_ ?_ <;> intro hG <;> (try cases hG)) | refine zr3 ?_ | refine x_bs ?_ | refine x_gr ?_ | refine x_st ?_ | refine x_mv ?_ | refine x_sk ?_ | refine zd5 ?_ | refine x_ix ?_ | refine ze5 ?_ | refine zf5 ?_ | refine zb4 ?_ | refine zo2 ?_ | refine x_ld ?_ | refine zr6 ?_ | (refine zr1 (by rfl) ?_ ?_ <;> intro hC <;> (try cases hC)))
  all_goals first
    | (exfalso; simp_all; done)
    | (refine zv ?_
       refine ret0 rfl zs3 ⟨?_, rfl⟩
       refine congrArg (fun s => AV.c (AC.v (Value.bool s))) ?_
       simp at *
       simp [hasNum, *]; done)
    | skip
def insNmC : List AC := insNms.map fun s => .v (.string s)
theorem zu13 : Ctr Tryd.prog 46 [] [] (.c (.ow 9 41 1 insNmC)) [] := by
  refine zh1 Tryd.func46 rfl rfl ?_
  repeat' (first | refine zh ?_ | refine zd ?_ | refine zf ?_ | refine zg ?_ | refine zb fun C => ?_ | refine zj (by kernel_rfl) (by kernel_rfl) fun C => ?_ | refine zc ?_ | (refine x_gm ?_ ?_ <;> intro hG <;> (try cases hG)) | refine zr3 ?_ | refine x_bs ?_ | refine x_gr ?_ | refine x_st ?_ | refine x_mv ?_ | refine x_sk ?_ | refine zd5 ?_ | refine x_ix ?_ | refine ze5 ?_ | refine zf5 ?_ | refine zb4 ?_ | refine zo2 ?_ | refine x_ld ?_ | refine zr6 ?_ | (refine zr1 (by rfl) ?_ ?_ <;> intro hC <;> (try cases hC)))
  refine zv ?_
  exact ret0 rfl (zt9 (zx6 (rw := ⟨9, 1, 41, false, insNmC⟩) rfl rfl rfl (by rfl) zy2)) ⟨rfl, rfl⟩
theorem zv13 : Ctr Tryd.prog 50 [] [] (.c (.ow 9 41 1 insNmC)) [] := by
  refine zh1 Tryd.func50 rfl rfl ?_
  repeat' (first | refine zh ?_ | refine zd ?_ | refine zf ?_ | refine zg ?_ | refine zb fun C => ?_ | refine zj (by kernel_rfl) (by kernel_rfl) fun C => ?_ | refine zc ?_ | (refine x_gm ?_ ?_ <;> intro hG <;> (try cases hG)) | refine zr3 ?_ | refine x_bs ?_ | refine x_gr ?_ | refine x_st ?_ | refine x_mv ?_ | refine x_sk ?_ | refine zd5 ?_ | refine x_ix ?_ | refine ze5 ?_ | refine zf5 ?_ | refine zb4 ?_ | refine zo2 ?_ | refine x_ld ?_ | refine zr6 ?_ | (refine zr1 (by rfl) ?_ ?_ <;> intro hC <;> (try cases hC)))
  refine zv ?_
  exact ret0 rfl (zt9 (zx6 (rw := ⟨9, 1, 41, false, insNmC⟩) rfl rfl rfl (by rfl) zy2)) ⟨rfl, rfl⟩
def insOkS (x n : Int) : Bool :=
  if inR x 1 41 && inR n 0 10000 then (if x == 7 then decide (n ≤ 11) else if x == 13 then decide (n ≤ 1) else if x == 34 then inR n 1 5 else hasNum x || n == 0) else false
def insOkJ (x n : Int) : Bool :=
  if !inR x 1 41 || !hasNum x then inR x 1 41 && n == 0 else if x == 7 then inR n 0 11 else if x == 13 then inR n 0 1 else if x == 34 then inR n 1 5 else inR n 0 10000
theorem zw13 (x n : Int) : insOkJ x n = insOkS x n := by
  have hb : hasNum 7 = true ∧ hasNum 13 = true ∧ hasNum 34 = true := by decide
  unfold insOkJ insOkS inR
  rw [Bool.eq_iff_iff]
  by_cases e1 : x = 7
  · subst e1; simp [hb.1]; omega
  by_cases e2 : x = 13
  · subst e2; simp [hb.2.1]; omega
  by_cases e3 : x = 34
  · subst e3; simp [hb.2.2]; omega
  cases hh : hasNum x
  · simp [e1, e2, e3]; omega
  · simp [e1, e2, e3]
    split <;> omega
set_option maxHeartbeats 1000000 in
theorem zg8 (x n : Int) : Ctr Tryd.prog 16 [.ag [.v (.int .i64 x), .v (.int .i64 n)]] [] (.c (.v (.bool (insOkS x n)))) [] := by
  rw [← zw13]
  refine zh1 Tryd.func16 rfl rfl ?_
  repeat' (first | refine zh ?_ | refine zd ?_ | refine zf ?_ | refine zg ?_ | refine zb fun C => ?_ | refine zj (by kernel_rfl) (by kernel_rfl) fun C => ?_ | refine zc ?_ | (refine x_gm ?_ ?_ <;> intro hG <;> (try cases hG)) | refine zr3 ?_ | refine x_bs ?_ | refine x_gr ?_ | refine x_st ?_ | refine x_mv ?_ | refine x_sk ?_ | refine zd5 ?_ | refine x_ix ?_ | refine ze5 ?_ | refine zf5 ?_ | refine zb4 ?_ | refine zo2 ?_ | refine x_ld ?_ | refine zs6 (zf8 _) ?_ | refine zs6 (zz17 _ _ _) ?_ | (refine zr1 (by rfl) ?_ ?_ <;> intro hC <;> (try cases hC)))
  all_goals first
    | (exfalso; simp_all; done)
    | (refine zv ?_
       refine ret0 rfl zs3 ⟨?_, rfl⟩
       refine congrArg (fun s => AV.c (AC.v (Value.bool s))) ?_
       simp_all [insOkJ]; done)
set_option maxHeartbeats 1000000 in
theorem zh8 (x n : Int) : Ctr Tryd.prog 15 [.ag [.v (.int .i64 x), .v (.int .i64 n)]] [] (.c (.v (.bool (insOkS x n)))) [] := by
  refine zh1 Tryd.func15 rfl rfl ?_
  repeat' (first | refine zh ?_ | refine zd ?_ | refine zf ?_ | refine zg ?_ | refine zb fun C => ?_ | refine zj (by kernel_rfl) (by kernel_rfl) fun C => ?_ | refine zc ?_ | (refine x_gm ?_ ?_ <;> intro hG <;> (try cases hG)) | refine zr3 ?_ | refine x_bs ?_ | refine x_gr ?_ | refine x_st ?_ | refine x_mv ?_ | refine x_sk ?_ | refine zd5 ?_ | refine x_ix ?_ | refine ze5 ?_ | refine zf5 ?_ | refine zb4 ?_ | refine zo2 ?_ | refine x_ld ?_ | refine zs6 (zc10 _) ?_ | refine zs6 (zd21 _ _ _) ?_ | (refine zr1 (by rfl) ?_ ?_ <;> intro hC <;> (try cases hC)))
  all_goals first
    | (exfalso; simp_all; done)
    | (refine zv ?_
       refine ret0 rfl zs3 ⟨?_, rfl⟩
       refine congrArg (fun s => AV.c (AC.v (Value.bool s))) ?_
       simp_all [insOkS]; done)
section
variable {ops : Array Oper} {Q : Exit → Act → World → Prop} {C : Ctx} {i : Nat} {r : List Nat}
variable {tm : Nat → AV} {hp : Nat → Option Row} {gn L : Nat} {us : List Nat}
class BitB (b : BinOp) : Prop where
  h : b = .and ∨ b = .or ∨ b = .xor
instance : BitB .and := ⟨.inl rfl⟩
instance : BitB .or := ⟨.inr (.inl rfl)⟩
instance : BitB .xor := ⟨.inr (.inr rfl)⟩
end
end Go.Proofs.YtfemkmnkofgaaaaDoor
namespace Go.Proofs.YtfemkmnkofgaaaaDoor
open Go.RowKit Go.Shelf
set_option maxRecDepth 100000
end Go.Proofs.YtfemkmnkofgaaaaDoor
namespace Go.Proofs.YtfemkmnkofgaaaaDoor
open Go.RowKit Go.Shelf
set_option maxRecDepth 100000
end Go.Proofs.YtfemkmnkofgaaaaDoor
namespace Go.Proofs.YtfemkmnkofgaaaaDoor
open Go.RowKit
set_option maxRecDepth 100000
end Go.Proofs.YtfemkmnkofgaaaaDoor
namespace Go.Proofs.YtfemkmnkofgaaaaDoor
open Go.RowKit
end Go.Proofs.YtfemkmnkofgaaaaDoor
namespace Go.Proofs.YtfemkmnkofgaaaaDoor
open Go.RowKit
theorem zi4 (d : UInt8) : (encB d).length = 1 := rfl
theorem zp5 (d : UInt8) (u : Value) (h : u ∈ encB d) : u.oneCell' = true := by
  simp [encB] at h; subst h; rfl
theorem elB : El Tryd.prog 22 5 1 1 := El.mk (z := .int .u8 0) Tryd.underlying22 (by kernel_rfl) rfl (by omega) (by omega)
theorem zk5 (n : Int) (h₀ : 0 ≤ n) (h₁ : n < 2 ^ 63) : IntKind.i64.wrap n = n := by rw [IntKind.wrap_i64]; omega
theorem za19 (x : Int) (h₀ : 0 ≤ x) (h₁ : x < 2 ^ 63) : bits .and .i64 x 127 = x % 128 := bits_mask .i64 63 (by decide) zk5 7 (by decide) x h₀ h₁
theorem zb22 (x : Int) (h₀ : 0 ≤ x) (h₁ : x < 128) : bits .or .i64 x 128 = x + 128 := by
  obtain ⟨a, rfl⟩ := Int.eq_ofNat_of_zero_le h₀
  have := (bits_nat .i64 63 (by decide) zk5 a 128 (by omega) (by omega)).2
  rw [show (((128 : Nat) : Int)) = 128 from rfl] at this
  rw [this]
  have ha : a < 128 := by omega
  have e : ∀ a < 128, a ||| 128 = a + 128 := by decide
  rw [e a ha]; simp
def put7 : Nat → Nat → List UInt8
  | 0, n => [UInt8.ofNat n]
  | f + 1, n => if 127 < n then UInt8.ofNat (n % 128 + 128) :: put7 f (n / 128) else [UInt8.ofNat n]
def clampU (n : Int) : Nat := if n < 0 then 0 else if 2147483647 < n then 2147483647 else n.toNat
def putU (n : Int) : List UInt8 := put7 5 (clampU n)
theorem zd11 : ∀ (f g n : Nat), n < 128 ^ (f + 1) → n < 128 ^ (g + 1) → put7 f n = put7 g n
  | 0, 0, n, _, _ => rfl
  | 0, g + 1, n, h, _ => by rw [put7, put7, if_neg (by omega)]
  | f + 1, 0, n, _, h => by rw [put7, put7, if_neg (by omega)]
  | f + 1, g + 1, n, h, h' => by
    rw [put7, put7]
    split
    · rw [zd11 f g (n / 128) (by rw [Nat.pow_succ] at h; omega) (by rw [Nat.pow_succ] at h'; omega)]
    · rfl
theorem ze11 (n : Int) : clampU n ≤ 2147483647 := by unfold clampU; split <;> (try split) <;> omega
def clampI (n lo hi : Int) : Int := if n < lo then lo else if hi < n then hi else n
theorem zk16 (n lo hi : Int) (w : World) (h : lo ≤ hi) : Calls Tryd.prog 90 #[.int .i64 n, .int .i64 lo, .int .i64 hi] w fun e w' =>
    e = .returned (.int .i64 (clampI n lo hi)) ∧ w = w' := by
  by_cases h1 : n < lo
  · have e : clampI n lo hi = lo := if_pos h1
    rw [e]
    clear e
    go_enter Tryd.func90, Tryd.ntmps90
    go_wp2
    go_ret
    exact ⟨by first | rfl | exact ri (by omega), rfl⟩
  · by_cases h2 : hi < n
    · have e : clampI n lo hi = hi := by unfold clampI; rw [if_neg h1, if_pos h2]
      rw [e]
      clear e
      go_enter Tryd.func90, Tryd.ntmps90
      go_wp2
      go_ret
      exact ⟨by first | exact ri (by omega) | (simp <;> omega), rfl⟩
    · have e : clampI n lo hi = n := by unfold clampI; rw [if_neg h1, if_neg h2]
      rw [e]
      clear e
      go_enter Tryd.func90, Tryd.ntmps90
      go_wp2
      go_ret
      exact ⟨by first | exact ri (by omega) | (simp <;> omega), rfl⟩
theorem za18 (m : Nat) (h : m < 256) (X : Int) (hX : X = m) : (#[Value.int .u8 X] : Array Value).toList = encB (UInt8.ofNat m) := by
  subst hX
  simp [encB]; omega
theorem zw12 {f m : Nat} {pre l : List UInt8} (hlt : 127 < m) (hmf : m < 128 ^ (f + 1)) (h : pre ++ put7 f m = l) : ∃ f', f = f' + 1 ∧ m / 128 < 128 ^ (f' + 1) ∧ (pre ++ [UInt8.ofNat (m % 128 + 128)]) ++ put7 f' (m / 128) = l := by
  match f, hmf, h with
  | 0, hmf, h => omega
  | f + 1, hmf, h =>
    refine ⟨f, rfl, ?_, ?_⟩
    · rw [Nat.pow_succ] at hmf; omega
    · rw [put7, if_pos hlt] at h; rw [List.append_assoc]; exact h
theorem zl16 {f m : Nat} {pre l : List UInt8} (hlt : ¬ 127 < m) (h : pre ++ put7 f m = l) : pre ++ [UInt8.ofNat m] = l := by
  match f, h with
  | 0, h => exact h
  | f + 1, h => rw [put7, if_neg hlt] at h; exact h
set_option maxRecDepth 100000 in
set_option maxHeartbeats 1000000 in
theorem zl5 (A : Option Addr) (ln c : Nat) (ds : List UInt8) (n : Int) (w : World) (hs : Rd w 1 encB (.slice A ln c) ds) (hn : ds.length ≤ 1073741824) :
    Calls Tryd.prog 89 #[.slice A ln c, .int .i64 n] w fun e w' => ∃ v, e = .returned v ∧ Own w' w.heap.size w'.heap.size 5 1 encB v (ds ++ putU n) ∧ Below w.heap.size w w' := by
  obtain rfl := hs.len_eq
  have ho0 : Own (w.alloc (.cells #[] 5)) w.heap.size (w.heap.size + 1) 5 1 encB (.slice (some ⟨w.heap.size, 0, none⟩) 0 0) [] := zf19 (Nat.le_refl _) zi4 rfl (by unfold maxLen; omega) rfl
  have hs0 : Rd (w.alloc (.cells #[] 5)) 1 encB (.slice A ds.length c) ds := hs.alloc _
  have hz0 : (([] : List UInt8).length + ds.length) * 1 ≤ 140737488355328 := by simp; omega
  have hb0 : w.heap.size ≤ (w.alloc (.cells #[] 5)).heap.size := by simp
  have HC := Lib.hid (show clampU n = clampU n from rfl)
  obtain ⟨N, hN⟩ : ∃ N, clampU n = N := ⟨_, rfl⟩
  have hNb : N ≤ 2147483647 := hN ▸ ze11 n
  have hP : putU n = put7 5 N := by unfold putU; rw [hN]
  rw [hP]
  obtain ⟨L, hL⟩ : ∃ L, put7 5 N = L := ⟨_, rfl⟩
  rw [hL]
  have HL := Lib.hid hL
  unfold clampU at hN
  have HN := Lib.hid hN
  clear hN hP hL
  go_enter Tryd.func89, Tryd.ntmps89
  go_wp2_with (at_builtin; refine zb14 elB zi4 zp5 rfl (.tmp 6) (.tmp 7) rfl _ [] rfl ho0 A c ds rfl hs0 hz0 hb0 ?_; intro v' w1 ho1 hb1)
  all_goals
    go_loopw [1, 5] (fun q v wr => ∃ (m f : Nat) (pre : List UInt8), q = .int .i64 m ∧ m ≤ 2147483647 ∧ m < 128 ^ (f + 1) ∧ pre.length + f ≤ 5 ∧ pre ++ put7 f m = L ∧ Own wr w.heap.size wr.heap.size 5 1 encB v (ds ++ pre) ∧ Below w.heap.size w wr) (fun q _ _ => (intOf q).toNat)
    case atStart =>
      have h := HN.out
      exact ⟨N, 5, [], by (first | rw [if_pos (by omega)] at h | (rw [if_neg (by omega)] at h; first | rw [if_pos (by omega)] at h | rw [if_neg (by omega)] at h)); congr 1; omega, hNb, by omega, by simp, HL.out, by simpa using ho1, (by repeat (first | (with_reducible refine Below.setCell ?_ (by first | omega | (· simp) | (· (simp; omega))) _) | (with_reducible refine Below.alloc ?_ (by first | omega | (· simp) | (· (simp; omega))) _) | (with_reducible refine Below.drew ?_) | (with_reducible refine zx2 ?_ _) | (with_reducible exact Below.refl _ _) | (with_reducible assumption) | (with_reducible refine Below.trans ?_ (Below.mono (by assumption) (by first | omega | (· simp) | (· (simp; omega))))) | (with_reducible refine Below.trans ?_ (Kp.below (by assumption) (by first | omega | (· simp) | (· (simp; omega))) (by first | omega | (· simp) | (· (simp; omega)))))))⟩
    case round =>
      obtain ⟨m, f, pre, rfl, hm, hmf, hpf, hput, ho, hb⟩ := hrel
      obtain ⟨A', c', rfl⟩ := ho.form
      have HP := Lib.hid hput
      have HM := Lib.hid hmf
      clear hput hmf
      have hzb := hb.size
      have hl1 : ((ds ++ pre).length + 1) * 1 ≤ 140737488355328 := by simp; omega
      by_cases hlt : 127 < m
      · have e1 : bits .and .i64 (m : Int) 127 = (m : Int) % 128 := za19 _ (by omega) (by omega)
        have e2 : bits .or .i64 ((m : Int) % 128) 128 = (m : Int) % 128 + 128 := zb22 _ (by omega) (by omega)
        have e3 : ((m : Int) % 128 + 128) % 256 = (m : Int) % 128 + 128 := by omega
        have e4 := za18 (m % 128 + 128) (by omega) ((m : Int) % 128 + 128) (by omega)
        go_wp2_with (at_builtin; refine zj9 elB zi4 zp5 rfl (.tmp 15) (.tmp 20) rfl _ (ds ++ pre) (UInt8.ofNat (m % 128 + 128)) rfl ho (Nat.le_refl _) rfl e4 hl1 hzb ?_; intro v2 w2 ho2 hb2)
        go_roundw
        case rel =>
          obtain ⟨f', rfl, h1, h2⟩ := zw12 hlt HM.out HP.out
          exact ⟨m / 128, f', _, by go_num, by omega, h1, by simp; omega, h2, by rw [← List.append_assoc]; exact ho2, hb.trans hb2⟩
        case measure => simp [intOf]; omega
      · have e3 : (m : Int) % 256 = m := by omega
        have e4 := za18 m (by omega) m rfl
        go_wp2_with (at_builtin; refine zj9 elB zi4 zp5 rfl (.tmp 24) (.tmp 27) rfl _ (ds ++ pre) (UInt8.ofNat m) rfl ho (Nat.le_refl _) rfl e4 hl1 hzb ?_; intro v2 w2 ho2 hb2)
        go_ret
        exact ⟨v2, rfl, by rw [← zl16 hlt HP.out, ← List.append_assoc]; exact ho2, hb.trans hb2⟩
set_option maxRecDepth 100000 in
set_option maxHeartbeats 1000000 in
theorem zm5 (A : Option Addr) (ln c : Nat) (ds : List UInt8) (n : Int) (w : World) (hs : Rd w 1 encB (.slice A ln c) ds) (hn : ds.length ≤ 1073741824) :
    Calls Tryd.prog 45 #[.slice A ln c, .int .i64 n] w fun e w' => ∃ v, e = .returned v ∧ Own w' w.heap.size w'.heap.size 5 1 encB v (ds ++ putU n) ∧ Below w.heap.size w w' := by
  obtain rfl := hs.len_eq
  have ho0 : Own w w.heap.size w.heap.size 5 1 encB (.slice none 0 0) ([] : List UInt8) := ze19 _ _ _ _ _ _
  have hz0 : (([] : List UInt8).length + ds.length) * 1 ≤ 140737488355328 := by simp; omega
  obtain ⟨N, hN⟩ : ∃ N, clampU n = N := ⟨_, rfl⟩
  have hNb : N ≤ 2147483647 := hN ▸ ze11 n
  have hcl : clampI n 0 2147483647 = (N : Int) := by
    rw [← hN]; unfold clampI clampU; split <;> (try split) <;> omega
  have hclb : clampI n 0 2147483647 = (N : Int) := hcl
  have HCL := Lib.hid hcl
  have hP : putU n = put7 5 N := by unfold putU; rw [hN]
  rw [hP]
  obtain ⟨L, hL⟩ : ∃ L, put7 5 N = L := ⟨_, rfl⟩
  rw [hL]
  have HL := Lib.hid hL
  clear hN hP hL hcl hclb
  go_enter Tryd.func45, Tryd.ntmps45
  go_wp2_with (first | (at_builtin; refine zb14 elB zi4 zp5 rfl (.const (.slice none 0 0)) (.tmp 6) rfl _ [] rfl ho0 A c ds rfl hs hz0 (Nat.le_refl _) ?_; intro v' w1 ho1 hb1) | (go_at_call 90; refine (zk16 _ _ _ _ (by omega)).mono ?_; rintro e w2 ⟨rfl, rfl⟩; rw [HCL.out]))
  all_goals
    go_loopw [1, 5] (fun q v wr => ∃ (m f : Nat) (pre : List UInt8), q = .int .i64 m ∧ m ≤ 2147483647 ∧ m < 128 ^ (f + 1) ∧ pre.length + f ≤ 5 ∧ pre ++ put7 f m = L ∧ Own wr w.heap.size wr.heap.size 5 1 encB v (ds ++ pre) ∧ Below w.heap.size w wr) (fun q _ _ => (intOf q).toNat)
    case atStart =>
      exact ⟨N, 5, [], rfl, hNb, by omega, by simp, HL.out, by simpa using ho1, (by repeat (first | (with_reducible refine Below.setCell ?_ (by first | omega | (· simp) | (· (simp; omega))) _) | (with_reducible refine Below.alloc ?_ (by first | omega | (· simp) | (· (simp; omega))) _) | (with_reducible refine Below.drew ?_) | (with_reducible refine zx2 ?_ _) | (with_reducible exact Below.refl _ _) | (with_reducible assumption) | (with_reducible refine Below.trans ?_ (Below.mono (by assumption) (by first | omega | (· simp) | (· (simp; omega))))) | (with_reducible refine Below.trans ?_ (Kp.below (by assumption) (by first | omega | (· simp) | (· (simp; omega))) (by first | omega | (· simp) | (· (simp; omega)))))))⟩
    case round =>
      obtain ⟨m, f, pre, rfl, hm, hmf, hpf, hput, ho, hb⟩ := hrel
      obtain ⟨A', c', rfl⟩ := ho.form
      have HP := Lib.hid hput
      have HM := Lib.hid hmf
      clear hput hmf
      have hzb := hb.size
      have hl1 : ((ds ++ pre).length + 1) * 1 ≤ 140737488355328 := by simp; omega
      by_cases hlt : 127 < m
      · have e3 : ((m : Int) % 128 + 128) % 256 = (m : Int) % 128 + 128 := by omega
        have e4 := za18 (m % 128 + 128) (by omega) ((m : Int) % 128 + 128) (by omega)
        go_wp2_with (at_builtin; refine zj9 elB zi4 zp5 rfl (.tmp 12) (.tmp 17) rfl _ (ds ++ pre) (UInt8.ofNat (m % 128 + 128)) rfl ho (Nat.le_refl _) rfl e4 hl1 hzb ?_; intro v2 w2 ho2 hb2)
        go_roundw
        case rel =>
          obtain ⟨f', rfl, h1, h2⟩ := zw12 hlt HM.out HP.out
          exact ⟨m / 128, f', _, by go_num, by omega, h1, by simp; omega, h2, by rw [← List.append_assoc]; exact ho2, hb.trans hb2⟩
        case measure => simp [intOf]; omega
      · have e3 : (m : Int) % 256 = m := by omega
        have e4 := za18 m (by omega) m rfl
        go_wp2_with (at_builtin; refine zj9 elB zi4 zp5 rfl (.tmp 21) (.tmp 24) rfl _ (ds ++ pre) (UInt8.ofNat m) rfl ho (Nat.le_refl _) rfl e4 hl1 hzb ?_; intro v2 w2 ho2 hb2)
        go_ret
        exact ⟨v2, rfl, by rw [← zl16 hlt HP.out, ← List.append_assoc]; exact ho2, hb.trans hb2⟩
def putIns (o n : Int) : List UInt8 := putU o ++ if hasN o then putU n else []
theorem zx12 : ∀ f n, (put7 f n).length ≤ f + 1
  | 0, n => by simp [put7]
  | f + 1, n => by
    rw [put7]; split
    · have := zx12 f (n / 128); simp; omega
    · simp
theorem zk7 (n : Int) : (putU n).length ≤ 6 := zx12 5 _
set_option maxRecDepth 100000 in
set_option maxHeartbeats 1000000 in
theorem za9 (A : Option Addr) (ln c : Nat) (ds : List UInt8) (o n : Int) (w : World) (hs : Rd w 1 encB (.slice A ln c) ds) (hn : ds.length ≤ 1048577) :
    Calls Tryd.prog 38 #[.slice A ln c, .agg #[.int .i64 o, .int .i64 n]] w fun e w' => ∃ v, e = .returned v ∧ Own w' w.heap.size w'.heap.size 5 1 encB v (ds ++ putIns o n) ∧ Below w.heap.size w w' := by
  obtain rfl := hs.len_eq
  have hl := zk7 o
  have hs0 : Rd (w.alloc (.cells #[.int .i64 o, .int .i64 n] 25)) 1 encB (.slice A ds.length c) ds := hs.alloc _
  cases hh : hasN o
  · have e : putIns o n = putU o := by unfold putIns; rw [hh]; simp
    rw [e]
    clear e
    go_enter Tryd.func38, Tryd.ntmps38
    go_wp2_with (first | (go_at_call 89; refine (zl5 _ _ _ ds _ _ hs0 (by first | omega | (· simp) | (· (simp; omega)))).mono ?_; rintro e w1 ⟨v1, rfl, ho1, hb1⟩; have hza := hb1.size; (try simp only [World.size_alloc, World.size_drew, World.size_setCell] at hza); have ka0 := blk hb1 (b := w.heap.size) (by first | omega | (· simp) | (· (simp; omega)))) | (go_at_call 44; refine (zr2 _ _).mono ?_; rintro e w2 ⟨rfl, rfl⟩))
    go_ret
    exact ⟨v1, rfl, ho1.wider (by simp) (Nat.le_refl _), (by repeat (first | (with_reducible refine Below.setCell ?_ (by first | omega | (· simp) | (· (simp; omega))) _) | (with_reducible refine Below.alloc ?_ (by first | omega | (· simp) | (· (simp; omega))) _) | (with_reducible refine Below.drew ?_) | (with_reducible refine zx2 ?_ _) | (with_reducible exact Below.refl _ _) | (with_reducible assumption) | (with_reducible refine Below.trans ?_ (Below.mono (by assumption) (by first | omega | (· simp) | (· (simp; omega))))) | (with_reducible refine Below.trans ?_ (Kp.below (by assumption) (by first | omega | (· simp) | (· (simp; omega))) (by first | omega | (· simp) | (· (simp; omega)))))))⟩
  · have e : ds ++ putIns o n = (ds ++ putU o) ++ putU n := by unfold putIns; rw [hh]; simp
    rw [e]
    clear e
    go_enter Tryd.func38, Tryd.ntmps38
    go_wp2_with fail
    refine (zl5 _ _ _ ds _ _ hs0 (by first | omega | (· simp) | (· (simp; omega)))).mono ?_; rintro e w1 ⟨v1, rfl, ho1, hb1⟩; obtain ⟨A1, n1, c1, rfl, HN1⟩ := ho1.form'; have hza := hb1.size; (try simp only [World.size_alloc, World.size_drew, World.size_setCell] at hza); have ka0 := blk hb1 (b := w.heap.size) (by first | omega | (· simp) | (· (simp; omega)))
    go_wp2_with fail
    refine (zr2 _ _).mono ?_; rintro e w2 ⟨rfl, rfl⟩
    go_wp2_with fail
    refine (zl5 _ _ _ _ _ _ (ho1.rd zi4) (by simp; omega)).mono ?_; rintro e w3 ⟨v3, rfl, ho3, hb3⟩
    go_wp2_with fail
    go_ret
    have hz3 := hb3.size
    exact ⟨v3, rfl, ho3.wider (by omega) (Nat.le_refl _), (by repeat (first | (with_reducible refine Below.setCell ?_ (by first | omega | (· simp) | (· (simp; omega))) _) | (with_reducible refine Below.alloc ?_ (by first | omega | (· simp) | (· (simp; omega))) _) | (with_reducible refine Below.drew ?_) | (with_reducible refine zx2 ?_ _) | (with_reducible exact Below.refl _ _) | (with_reducible assumption) | (with_reducible refine Below.trans ?_ (Below.mono (by assumption) (by first | omega | (· simp) | (· (simp; omega))))) | (with_reducible refine Below.trans ?_ (Kp.below (by assumption) (by first | omega | (· simp) | (· (simp; omega))) (by first | omega | (· simp) | (· (simp; omega)))))))⟩
set_option maxRecDepth 100000 in
set_option maxHeartbeats 1000000 in
theorem zb9 (A : Option Addr) (ln c : Nat) (ds : List UInt8) (o n : Int) (w : World) (hs : Rd w 1 encB (.slice A ln c) ds) (hn : ds.length ≤ 1048577) :
    Calls Tryd.prog 13 #[.slice A ln c, .agg #[.int .i64 o, .int .i64 n]] w fun e w' => ∃ v, e = .returned v ∧ Own w' w.heap.size w'.heap.size 5 1 encB v (ds ++ putIns o n) ∧ Below w.heap.size w w' := by
  obtain rfl := hs.len_eq
  have hl := zk7 o
  have hs0 : Rd (w.alloc (.cells #[.int .i64 o, .int .i64 n] 25)) 1 encB (.slice A ds.length c) ds := hs.alloc _
  cases hh : hasN o
  · have e : putIns o n = putU o := by unfold putIns; rw [hh]; simp
    rw [e]
    clear e
    go_enter Tryd.func13, Tryd.ntmps13
    go_wp2_with (first | (go_at_call 45; refine (zm5 _ _ _ ds _ _ hs0 (by first | omega | (· simp) | (· (simp; omega)))).mono ?_; rintro e w1 ⟨v1, rfl, ho1, hb1⟩; have hza := hb1.size; (try simp only [World.size_alloc, World.size_drew, World.size_setCell] at hza); have ka0 := blk hb1 (b := w.heap.size) (by first | omega | (· simp) | (· (simp; omega)))) | (go_at_call 42; refine (zg2 _ _).mono ?_; rintro e w2 ⟨rfl, rfl⟩))
    go_ret
    exact ⟨v1, rfl, ho1.wider (by simp) (Nat.le_refl _), (by repeat (first | (with_reducible refine Below.setCell ?_ (by first | omega | (· simp) | (· (simp; omega))) _) | (with_reducible refine Below.alloc ?_ (by first | omega | (· simp) | (· (simp; omega))) _) | (with_reducible refine Below.drew ?_) | (with_reducible refine zx2 ?_ _) | (with_reducible exact Below.refl _ _) | (with_reducible assumption) | (with_reducible refine Below.trans ?_ (Below.mono (by assumption) (by first | omega | (· simp) | (· (simp; omega))))) | (with_reducible refine Below.trans ?_ (Kp.below (by assumption) (by first | omega | (· simp) | (· (simp; omega))) (by first | omega | (· simp) | (· (simp; omega)))))))⟩
  · have e : ds ++ putIns o n = (ds ++ putU o) ++ putU n := by unfold putIns; rw [hh]; simp
    rw [e]
    clear e
    go_enter Tryd.func13, Tryd.ntmps13
    go_wp2_with fail
    refine (zm5 _ _ _ ds _ _ hs0 (by first | omega | (· simp) | (· (simp; omega)))).mono ?_; rintro e w1 ⟨v1, rfl, ho1, hb1⟩; obtain ⟨A1, n1, c1, rfl, HN1⟩ := ho1.form'; have hza := hb1.size; (try simp only [World.size_alloc, World.size_drew, World.size_setCell] at hza); have ka0 := blk hb1 (b := w.heap.size) (by first | omega | (· simp) | (· (simp; omega)))
    go_wp2_with fail
    refine (zg2 _ _).mono ?_; rintro e w2 ⟨rfl, rfl⟩
    go_wp2_with fail
    refine (zm5 _ _ _ _ _ _ (ho1.rd zi4) (by simp; omega)).mono ?_; rintro e w3 ⟨v3, rfl, ho3, hb3⟩
    go_wp2_with fail
    go_ret
    have hz3 := hb3.size
    exact ⟨v3, rfl, ho3.wider (by omega) (Nat.le_refl _), (by repeat (first | (with_reducible refine Below.setCell ?_ (by first | omega | (· simp) | (· (simp; omega))) _) | (with_reducible refine Below.alloc ?_ (by first | omega | (· simp) | (· (simp; omega))) _) | (with_reducible refine Below.drew ?_) | (with_reducible refine zx2 ?_ _) | (with_reducible exact Below.refl _ _) | (with_reducible assumption) | (with_reducible refine Below.trans ?_ (Below.mono (by assumption) (by first | omega | (· simp) | (· (simp; omega))))) | (with_reducible refine Below.trans ?_ (Kp.below (by assumption) (by first | omega | (· simp) | (· (simp; omega))) (by first | omega | (· simp) | (· (simp; omega)))))))⟩
end Go.Proofs.YtfemkmnkofgaaaaDoor
