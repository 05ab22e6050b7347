/- strconv.Itoa: the shelf's contract, laid at this program by the shelf's own tools, as a contract of the machine. -/
import Derived.Shelf.LaysM
import Derived.Shelf.Strconv.Itoa3
import Derived.Lib.AtoiAll
import Derived.Test.YtnlgmojciplnoaaDoorFlxPK
namespace Go.Proofs.YtnlgmojciplnoaaDoor
open Go.RowKit Go.Shelf
set_option maxRecDepth 100000
def laysM171_ren : Go.Shelf.Ren := ⟨fun | 171 => 47 | 243 => 70 | 246 => 79 | 283 => 85 | 284 => 86 | 285 => 87 | 286 => 88 | 129 => 92 | 317 => 91 | 318 => 93 | 319 => 94 | 320 => 95 | 337 => 96 | 338 => 97 | n => n, fun | 3 => 3 | 9 => 9 | 2 => 2 | 4 => 4 | 171 => 98 | 0 => 0 | 53 => 92 | 37 => 22 | 5 => 5 | 173 => 101 | 212 => 109 | 51 => 110 | 20 => 20 | 213 => 111 | 46 => 81 | 232 => 115 | 233 => 116 | n => n, fun | 17 => 3 | 18 => 4 | 19 => 5 | n => n⟩
theorem zb19 : Go.Proofs.LaysM.n171 Tryd.prog laysM171_ren := {
  mixed := by kernel_rfl
  f129 := Tryd.func92.trans (congrArg some (by kernel_rfl))
  f171 := Tryd.func47.trans (congrArg some (by kernel_rfl))
  f243 := Tryd.func70.trans (congrArg some (by kernel_rfl))
  f246 := Tryd.func79.trans (congrArg some (by kernel_rfl))
  f283 := Tryd.func85.trans (congrArg some (by kernel_rfl))
  f284 := Tryd.func86.trans (congrArg some (by kernel_rfl))
  f285 := Tryd.func87.trans (congrArg some (by kernel_rfl))
  f286 := Tryd.func88.trans (congrArg some (by kernel_rfl))
  f317 := Tryd.func91.trans (congrArg some (by kernel_rfl))
  f318 := Tryd.func93.trans (congrArg some (by kernel_rfl))
  f319 := Tryd.func94.trans (congrArg some (by kernel_rfl))
  f320 := Tryd.func95.trans (congrArg some (by kernel_rfl))
  f337 := Tryd.func96.trans (congrArg some (by kernel_rfl))
  f338 := Tryd.func97.trans (congrArg some (by kernel_rfl))
  t0 := Tryd.underlying0
  a0 := Tryd.isAgg0
  z0 := Tryd.sizeOf0
  v0 := Tryd.zeroValue0
  t2 := Tryd.underlying2
  a2 := Tryd.isAgg2
  z2 := Tryd.sizeOf2
  v2 := Tryd.zeroValue2
  t3 := Tryd.underlying3
  a3 := Tryd.isAgg3
  z3 := Tryd.sizeOf3
  v3 := Tryd.zeroValue3
  t4 := Tryd.underlying4
  a4 := Tryd.isAgg4
  z4 := Tryd.sizeOf4
  v4 := Tryd.zeroValue4
  t5 := Tryd.underlying5
  a5 := Tryd.isAgg5
  z5 := Tryd.sizeOf5
  v5 := Tryd.zeroValue5
  t9 := Tryd.underlying9
  a9 := Tryd.isAgg9
  z9 := Tryd.sizeOf9
  v9 := Tryd.zeroValue9
  t20 := Tryd.underlying20
  a20 := Tryd.isAgg20
  z20 := Tryd.sizeOf20
  v20 := Tryd.zeroValue20
  t37 := Tryd.underlying22
  a37 := Tryd.isAgg22
  z37 := Tryd.sizeOf22
  v37 := Tryd.zeroValue22
  t46 := Tryd.underlying81
  a46 := Tryd.isAgg81
  z46 := Tryd.sizeOf81
  v46 := Tryd.zeroValue81
  t51 := Tryd.underlying110
  a51 := Tryd.isAgg110
  z51 := Tryd.sizeOf110
  v51 := Tryd.zeroValue110
  t53 := Tryd.underlying92
  a53 := Tryd.isAgg92
  z53 := Tryd.sizeOf92
  v53 := Tryd.zeroValue92
  t171 := Tryd.underlying98
  a171 := Tryd.isAgg98
  z171 := Tryd.sizeOf98
  v171 := Tryd.zeroValue98
  t173 := Tryd.underlying101
  a173 := Tryd.isAgg101
  z173 := Tryd.sizeOf101
  v173 := Tryd.zeroValue101
  t212 := Tryd.underlying109
  a212 := Tryd.isAgg109
  z212 := Tryd.sizeOf109
  v212 := Tryd.zeroValue109
  t213 := Tryd.underlying111
  a213 := Tryd.isAgg111
  z213 := Tryd.sizeOf111
  t232 := Tryd.underlying115
  a232 := Tryd.isAgg115
  z232 := Tryd.sizeOf115
  v232 := Tryd.zeroValue115
  t233 := Tryd.underlying116
  a233 := Tryd.isAgg116
  z233 := Tryd.sizeOf116
  v233 := Tryd.zeroValue116
  g17 := by kernel_rfl
  g18 := by kernel_rfl
  g19 := by kernel_rfl
  i0 := by kernel_rfl
  i2 := by kernel_rfl
  i3 := by kernel_rfl
  i4 := by kernel_rfl
  i5 := by kernel_rfl
  i9 := by kernel_rfl
  i20 := by kernel_rfl
  i37 := by kernel_rfl
  i46 := by kernel_rfl
  i51 := by kernel_rfl
  i53 := by kernel_rfl
  i171 := by kernel_rfl
  i173 := by kernel_rfl
  i212 := by kernel_rfl
  i232 := by kernel_rfl
  i233 := by kernel_rfl
  m17 := by kernel_rfl
  m18 := by kernel_rfl
  m19 := by kernel_rfl }
theorem zz8 {P : Program} {f : FuncId} {ins : List AV} {us : List Value} {v : Value} (he : entB P f = true) (hv : scal v = true) (hin : ∀ (w : World) (St : Nat → Prop) (φ : Nat → Lc) (K : Nat → Prop) (us' : List Value), VRL w St φ K ins us' → us' = us)
    (hc : ∀ w, Gl w → Calls P f us.toArray w fun e w' => e = .returned v ∧ Below w.heap.size w w') : Ctr P f ins [] (.c (.v v)) [] := by
  refine ⟨he, fun w St φ F us' hent => ?_⟩
  obtain rfl := hin _ _ _ _ _ hent.args
  refine (hc w hent.gl.1).mono ?_
  rintro e w' ⟨rfl, hb⟩
  refine ⟨_, _, v, fun _ => False, fun _ => [], [], ⟨rfl, rfl⟩, rfl, ⟨⟨hb.os, hb.tape, hb.output, hb.size, fun b hlt _ => .inl (hb.block b hlt)⟩, ?_, by simp, rfl, fun i cs hi => by simp at hi, fun i hi => by simp at hi, fun i hi => by simp at hi, fun i j hi => by simp at hi, fun i b lo hi => by simp at hi, fun b hb => by simp at hb, fun b hb => hb.elim⟩⟩
  simp only [VRF, CR]
  exact ⟨trivial, hv, trivial⟩
def numT (n : Int) : ByteArray := ⟨(Lib.itoa n).toArray⟩
theorem zh11 {n : Int} (h0 : -9223372036854775808 ≤ n) (h1 : n ≤ 9223372036854775807) : Ctr Tryd.prog 47 [.c (.v (.int .i64 n))] [] (.c (.v (.string (numT n)))) [] := by
  refine zz8 (us := [.int .i64 n]) (by kernel_rfl) rfl (fun w St φ K us' h => ?_) fun w gw => ?_
  · simp only [VRL, VR, CR] at h
    obtain ⟨u, us1, rfl, ⟨rfl, -⟩, rfl⟩ := h
    rfl
  · refine (Go.Proofs.Any.strconv_Itoa zb19 n h0 h1 w (zx14 gw)).mono ?_
    rintro e w' ⟨rfl, k, os, rfl⟩
    refine ⟨rfl, rfl, rfl, rfl, by simp [Sort.grow], fun j hj => ?_⟩
    simp only [Sort.grow, World.heap_drewN]
    rw [Array.getElem?_append_left hj]
theorem zc19 {n : Int} (h0 : -9223372036854775808 ≤ n) (h1 : n ≤ 9223372036854775807) : Ctr Tryd.prog 30 [.c (.v (.int .i64 n))] [] (.c (.v (.string (numT n)))) [] := by
  have hc := zh11 h0 h1
  refine za2 Tryd.func30 rfl rfl ?_
  repeat' (first | refine zj ?_ | refine zc ?_ | refine ze ?_ | refine zf ?_ | refine zb fun C => ?_ | refine za1 (by kernel_rfl) (by kernel_rfl) fun C => ?_ | refine zd ?_ | (refine x_gm ?_ ?_ <;> intro hG <;> (try cases hG)) | refine zi5 ?_ | refine x_bs ?_ | refine x_gr ?_ | refine x_st ?_ | refine x_mv ?_ | refine x_sk ?_ | refine zu7 ?_ | refine x_ix ?_ | refine zv7 ?_ | refine zw7 ?_ | refine zy5 ?_ | refine zv4 ?_ | refine x_ld ?_ | refine zc10 ?_ | (refine zc4 (by rfl) ?_ ?_ <;> intro hC <;> (try cases hC)))
  refine zw ?_
  exact ret0 rfl zu1 ⟨rfl, rfl⟩
end Go.Proofs.YtnlgmojciplnoaaDoor
namespace Go.Proofs.YtnlgmojciplnoaaDoor
open Go.RowKit
set_option maxRecDepth 100000
theorem zd19 (k : Nat) : (-(k : Int)).tdiv 10 = -((k / 10 : Nat) : Int) := by rw [Int.neg_tdiv]; rfl
theorem ze19 (k : Nat) : (-(k : Int)).tmod 10 = -((k % 10 : Nat) : Int) := by rw [Int.neg_tmod]; rfl
theorem zn13 {k : Nat} (h : 0 < k) : numT (-(k : Int)) = ⟨(45 :: Lib.decDigits k).toArray⟩ := by
  unfold numT Lib.itoa
  rw [if_pos (by omega)]
  simp
theorem zj6 (k : Nat) : numT (k : Int) = ⟨(Lib.decDigits k).toArray⟩ := by
  unfold numT Lib.itoa
  rw [if_neg (by omega)]
  simp
theorem zq6 {k : Nat} (h : ¬ k < 10) : Lib.decDigits k = Lib.decDigits (k / 10) ++ [UInt8.ofNat (48 + k % 10)] := by
  rw [Lib.decDigits, dif_neg h]
theorem zp4 {k : Nat} (h : k < 10) : Lib.decDigits k = [UInt8.ofNat (48 + k)] := by
  rw [Lib.decDigits, dif_pos h]
theorem zu16 {n : Int} (h0 : -9223372036854775808 ≤ n) (h1 : n ≤ 9223372036854775807) : (numT n).size ≤ 20 := by
  have key : ∀ (f k : Nat), k < 10 ^ (f + 1) → (Lib.decDigits k).length ≤ f + 1 := by
    intro f
    induction f with
    | zero => intro k hk; rw [zp4 (by simpa using hk)]; simp
    | succ f ih =>
      intro k hk
      by_cases h : k < 10
      · rw [zp4 h]; simp
      · rw [zq6 h, List.length_append]
        have := ih (k / 10) (by rw [Nat.pow_succ] at hk; omega)
        simp only [List.length_cons, List.length_nil]; omega
  unfold numT Lib.itoa
  show (List.toArray _).size ≤ 20
  rw [List.size_toArray]
  split
  · have := key 18 n.natAbs (by omega)
    rw [List.length_cons]; omega
  · have := key 18 n.toNat (by omega)
    omega
theorem u8of {z : Int} {d : Nat} (e : z = ((48 + d : Nat) : Int)) (h : d < 10) : UInt8.ofNat (IntKind.u8.wrap (IntKind.i64.wrap z)).toNat = UInt8.ofNat (48 + d) := by
  subst e
  rw [zc8 (by omega) (by omega), IntKind.wrap_u8]
  have : (((48 + d : Nat) : Int) % 256).toNat = 48 + d := by omega
  rw [this]
theorem cat45 (x : List UInt8) (b : UInt8) : (ByteArray.mk #[45]) ++ ⟨x.toArray⟩ ++ ⟨[b].toArray⟩ = ⟨(45 :: (x ++ [b])).toArray⟩ := by
  rw [show (ByteArray.mk #[45]) = ⟨[45].toArray⟩ from rfl, ByteArray.mk_append_mk, ByteArray.mk_append_mk]; rfl
theorem zy21 (m : Nat) : ∀ n : Int, n.natAbs ≤ m → -9223372036854775808 ≤ n → n ≤ 9223372036854775807 → Ctr Tryd.prog 41 [.c (.v (.int .i64 n))] [] (.c (.v (.string (numT n)))) [] := by
  induction m using Nat.strongRecOn with
  | _ m ih =>
  intro n hm h0 h1
  rcases Int.lt_or_le n (-9) with h | h
  · obtain ⟨k, rfl⟩ : ∃ k : Nat, n = -(k : Int) := ⟨n.natAbs, by omega⟩
    have hc := ih (k / 10) (by omega) ((k / 10 : Nat) : Int) (by omega) (by omega) (by omega)
    clear ih
    have e1 : IntKind.i64.wrap (0 - IntKind.i64.wrap ((-(k : Int)).tdiv 10)) = ((k / 10 : Nat) : Int) := by
      rw [zd19, zc8 (z := -((k / 10 : Nat) : Int)) (by omega) (by omega), zc8 (by omega) (by omega)]; omega
    have hc' : Ctr Tryd.prog 41 [.c (.v (.int .i64 (IntKind.i64.wrap (0 - IntKind.i64.wrap ((-(k : Int)).tdiv 10)))))] [] (.c (.v (.string (numT ((k / 10 : Nat) : Int))))) [] := by rw [e1]; exact hc
    clear hc
    refine za2 Tryd.func41 rfl rfl ?_
    have hz := zu16 (n := ((k / 10 : Nat) : Int)) (by omega) (by omega)
    repeat' (first | refine zj ?_ | refine zc ?_ | refine ze ?_ | refine zf ?_ | refine zb fun C => ?_ | refine za1 (by kernel_rfl) (by kernel_rfl) fun C => ?_ | refine zd ?_ | (refine x_gm ?_ ?_ <;> intro hG <;> (try cases hG)) | refine zi5 ?_ | refine zi12 ?_ | refine zj12 ?_ | refine x_bs ?_ | refine x_gr ?_ | refine x_st ?_ | refine x_mv ?_ | refine x_sk ?_ | refine zu7 ?_ | refine x_ix ?_ | refine zv7 ?_ | refine zw7 ?_ | refine zy5 ?_ | refine zy5 (hnu := zl _) ?_ | refine zv4 ?_ | refine zv4 (hnu := zl _) ?_ | refine x_ld ?_ | refine zh12 ?_ | refine zc10 ?_ | (refine zc4 (by rfl) ?_ ?_ <;> intro hC <;> (try cases hC)))
    all_goals first
      | (exfalso; clear hc' e1; simp at *; omega)
      | skip
    refine zw ?_
    refine ret0 rfl zu1 ⟨?_, rfl⟩
    refine congrArg (fun s => AV.c (AC.v (Value.string s))) ?_
    rw [u8of (d := k % 10) (by rw [ze19]; omega) (by omega), zj6, cat45, zn13 (by omega), zq6 (k := k) (by omega)]
  · rcases Int.lt_or_le n 0 with h2 | h2
    · obtain ⟨k, rfl⟩ : ∃ k : Nat, n = -(k : Int) := ⟨n.natAbs, by omega⟩
      clear ih
      refine za2 Tryd.func41 rfl rfl ?_
      repeat' (first | refine zj ?_ | refine zc ?_ | refine ze ?_ | refine zf ?_ | refine zb fun C => ?_ | refine za1 (by kernel_rfl) (by kernel_rfl) fun C => ?_ | refine zd ?_ | (refine x_gm ?_ ?_ <;> intro hG <;> (try cases hG)) | refine zi5 ?_ | refine zi12 ?_ | refine zj12 ?_ | refine x_bs ?_ | refine x_gr ?_ | refine x_st ?_ | refine x_mv ?_ | refine x_sk ?_ | refine zu7 ?_ | refine x_ix ?_ | refine zv7 ?_ | refine zw7 ?_ | refine zy5 ?_ | refine zy5 (hnu := zl _) ?_ | refine zv4 ?_ | refine zv4 (hnu := zl _) ?_ | refine x_ld ?_ | refine zh12 ?_ | refine zc10 ?_ | (refine zc4 (by rfl) ?_ ?_ <;> intro hC <;> (try cases hC)))
      all_goals first
        | (exfalso; simp at *; omega)
        | skip
      refine zw ?_
      refine ret0 rfl zu1 ⟨?_, rfl⟩
      refine congrArg (fun s => AV.c (AC.v (Value.string s))) ?_
      rw [u8of (d := k) (by omega) (by omega), zn13 (by omega), zp4 (k := k) (by omega)]; rfl
    · obtain ⟨k, rfl⟩ : ∃ k : Nat, n = (k : Int) := ⟨n.natAbs, by omega⟩
      rcases Nat.lt_or_ge k 10 with h3 | h3
      · clear ih
        refine za2 Tryd.func41 rfl rfl ?_
        repeat' (first | refine zj ?_ | refine zc ?_ | refine ze ?_ | refine zf ?_ | refine zb fun C => ?_ | refine za1 (by kernel_rfl) (by kernel_rfl) fun C => ?_ | refine zd ?_ | (refine x_gm ?_ ?_ <;> intro hG <;> (try cases hG)) | refine zi5 ?_ | refine zi12 ?_ | refine zj12 ?_ | refine x_bs ?_ | refine x_gr ?_ | refine x_st ?_ | refine x_mv ?_ | refine x_sk ?_ | refine zu7 ?_ | refine x_ix ?_ | refine zv7 ?_ | refine zw7 ?_ | refine zy5 ?_ | refine zy5 (hnu := zl _) ?_ | refine zv4 ?_ | refine zv4 (hnu := zl _) ?_ | refine x_ld ?_ | refine zh12 ?_ | refine zc10 ?_ | (refine zc4 (by rfl) ?_ ?_ <;> intro hC <;> (try cases hC)))
        all_goals first
          | (exfalso; simp at *; omega)
          | skip
        refine zw ?_
        refine ret0 rfl zu1 ⟨?_, rfl⟩
        refine congrArg (fun s => AV.c (AC.v (Value.string s))) ?_
        rw [u8of (d := k) (by omega) (by omega), zj6, zp4 (k := k) (by omega)]
      · have hc := ih (k / 10) (by omega) ((k / 10 : Nat) : Int) (by omega) (by omega) (by omega)
        clear ih
        have e1 : IntKind.i64.wrap ((k : Int).tdiv 10) = ((k / 10 : Nat) : Int) := by
          rw [show ((k : Int).tdiv 10) = ((k / 10 : Nat) : Int) from rfl, zc8 (by omega) (by omega)]
        have hc' : Ctr Tryd.prog 41 [.c (.v (.int .i64 (IntKind.i64.wrap ((k : Int).tdiv 10))))] [] (.c (.v (.string (numT ((k / 10 : Nat) : Int))))) [] := by rw [e1]; exact hc
        clear hc
        refine za2 Tryd.func41 rfl rfl ?_
        have hz := zu16 (n := ((k / 10 : Nat) : Int)) (by omega) (by omega)
        repeat' (first | refine zj ?_ | refine zc ?_ | refine ze ?_ | refine zf ?_ | refine zb fun C => ?_ | refine za1 (by kernel_rfl) (by kernel_rfl) fun C => ?_ | refine zd ?_ | (refine x_gm ?_ ?_ <;> intro hG <;> (try cases hG)) | refine zi5 ?_ | refine zi12 ?_ | refine zj12 ?_ | refine x_bs ?_ | refine x_gr ?_ | refine x_st ?_ | refine x_mv ?_ | refine x_sk ?_ | refine zu7 ?_ | refine x_ix ?_ | refine zv7 ?_ | refine zw7 ?_ | refine zy5 ?_ | refine zy5 (hnu := zl _) ?_ | refine zv4 ?_ | refine zv4 (hnu := zl _) ?_ | refine x_ld ?_ | refine zh12 ?_ | refine zc10 ?_ | (refine zc4 (by rfl) ?_ ?_ <;> intro hC <;> (try cases hC)))
        all_goals first
          | (exfalso; clear hc' e1; simp at *; omega)
          | skip
        refine zw ?_
        refine ret0 rfl zu1 ⟨?_, rfl⟩
        refine congrArg (fun s => AV.c (AC.v (Value.string s))) ?_
        rw [u8of (d := k % 10) (by rw [show ((k : Int).tmod 10) = ((k % 10 : Nat) : Int) from rfl]; omega) (by omega), zj6, zj6, zq6 (k := k) (by omega)]
        exact ByteArray.mk_append_mk _ _
def neB (c x : Nat) : Bool := decide (x ≠ c)
structure Tk where
  k : Int
  n : Int
  s : ByteArray
  e : Nat
def tokE (k n : Int) (s : ByteArray) : E := .agg [.int .i64 k, .int .i64 n, .str s]
def Tk.E (t : Tk) : E := tokE t.k t.n t.s
def valA (acc : Nat) : List UInt8 → Nat
  | [] => acc
  | c :: r => valA (acc * 10 + (c.toNat - 48)) r
def valS (s : ByteArray) : Nat := valA 0 s.data.toList
def intV (s : ByteArray) : Int := if 1 ≤ s.size ∧ s.size ≤ 10 ∧ ¬ (1 < s.size ∧ bAt s 0 = 48) then (valS s : Int) else -1
def sixB (x y : Nat) : Bool := (decide (y = 61) && (decide (x = 60) || (decide (x = 61) || (decide (x = 33) || decide (x = 62))))) || ((decide (x = 38) && decide (y = 38)) || (decide (x = 124) && decide (y = 124)))
def oneB (c : Nat) : Bool := [123, 125, 40, 41, 91, 93, 44, 59, 36, 43, 45, 42, 47, 37, 46, 60, 62, 33, 126, 61].contains c
def markB (s : ByteArray) : Bool := (decide (s.size = 2) && sixB (bAt s 0) (bAt s 1)) || (decide (s.size = 1) && oneB (bAt s 0))
def markS (s : ByteArray) : ByteArray := if 2 ≤ s.size ∧ sixB (bAt s 0) (bAt s 1) = true then cutB s 0 2 else if 1 ≤ s.size ∧ oneB (bAt s 0) = true then cutB s 0 1 else ByteArray.empty
def tokOk (k n : Int) (s : ByteArray) : Bool :=
  if k = 1 then decide (0 ≤ n) && (decide (n ≤ 2147483647) && decide (s.size = 0))
  else if k = 2 then nameW s && decide (n = 0)
  else if k = 3 then textB 39 s && decide (n = 0)
  else if k = 4 then textB 47 s && (decide (1 ≤ s.size) && decide (n = 0))
  else if k = 5 then markB s && decide (n = 0)
  else false
def Tk.ok (t : Tk) : Bool := tokOk t.k t.n t.s
def quoR (s : ByteArray) (a : Nat) (k : Int) : Tk :=
  if runF (neB (bAt s a)) s s.size (a + 1) = s.size then ⟨0, 0, ByteArray.empty, s.size⟩ else ⟨k, 0, cutB s (a + 1) (runF (neB (bAt s a)) s s.size (a + 1)), runF (neB (bAt s a)) s s.size (a + 1) + 1⟩
def oneR (s : ByteArray) (a : Nat) (rex : Bool) : Tk :=
  if digB (bAt s a) = true then ⟨1, intV (cutB s a (runF digB s s.size a)), ByteArray.empty, runF digB s s.size a⟩
  else if letB (bAt s a) = true then ⟨2, 0, cutB s a (runF ldB s s.size a), runF ldB s s.size a⟩
  else if bAt s a = 39 then quoR s a 3
  else if bAt s a = 47 ∧ rex = true then quoR s a 4
  else if a + 1 < s.size ∧ markB (cutB s a (a + 2)) = true then ⟨5, 0, cutB s a (a + 2), a + 2⟩
  else ⟨5, 0, cutB s a (a + 1), a + 1⟩
def blB (c : Nat) : Bool := decide (c = 32) || (decide (c = 9) || (decide (c = 10) || decide (c = 13)))
def passF (s : ByteArray) : Nat → Nat → Nat
  | 0, a => a
  | f + 1, a => if a < s.size then if blB (bAt s a) = true then passF s f (a + 1) else if bAt s a = 35 then passF s f (runF (neB 10) s s.size a) else a else a
def tilB (k : Int) (s : ByteArray) : Bool := decide (k = 5) && decide (s = ⟨#[126]⟩)
def lexR (s : ByteArray) : Nat → Nat → Bool → List E → List E × Int
  | 0, _, _, out => (out, -1)
  | f + 1, a, rex, out => if a < s.size then if (oneR s a rex).ok = true ∧ out.length ≠ 2000 then lexR s f (passF s (s.size + 1) (oneR s a rex).e) (tilB (oneR s a rex).k (oneR s a rex).s) (out ++ [(oneR s a rex).E]) else ([], (a : Int)) else (out, -1)
theorem zx4 {p : Nat → Bool} {s : ByteArray} {a : Nat} (h : a < s.size) (h2 : p (bAt s a) = true) : runF p s s.size a = runF p s s.size (a + 1) ∧ a < runF p s s.size a := by
  have h1 := zv2 (p := p) (s := s) s.size a (by omega) (by omega)
  have h3 := zv2 (p := p) (s := s) s.size (a + 1) (by omega) (by omega)
  have hlt : a < runF p s s.size a := by
    rcases Nat.lt_or_ge a (runF p s s.size a) with h | h
    · exact h
    · have e : runF p s s.size a = a := by omega
      have := h1.2.2.2 (by omega)
      rw [e, h2] at this; cases this
  refine ⟨?_, hlt⟩
  rcases Nat.lt_trichotomy (runF p s s.size a) (runF p s s.size (a + 1)) with h4 | h4 | h4
  · have := h3.2.2.1 _ (by omega) h4
    rw [h1.2.2.2 (by omega)] at this; cases this
  · exact h4
  · have := h1.2.2.1 _ (by omega) h4
    rw [h3.2.2.2 (by omega)] at this; cases this
theorem zq5 {p : Nat → Bool} {s : ByteArray} {a : Nat} (h : ¬ (a < s.size ∧ p (bAt s a) = true)) : runF p s s.size a = a := ze5 h
theorem zf8 {p : Nat → Bool} {s : ByteArray} : ∀ (f a : Nat), a ≤ s.size → s.size ≤ a + f → runF p s f a = runF p s s.size a
  | 0, a, h1, h2 => by
    rw [zq5 fun h => by omega]; rfl
  | f + 1, a, h1, h2 => by
    by_cases h : a < s.size ∧ p (bAt s a) = true
    · rw [zp5 h.1 h.2, (zx4 h.1 h.2).1]
      exact zf8 f (a + 1) (by omega) (by omega)
    · rw [ze5 h, zq5 h]
theorem zv16 {p : Nat → Bool} {s : ByteArray} {a : Nat} (ha : a ≤ s.size) : ∀ (f j : Nat), j + a ≤ s.size → s.size ≤ j + a + f → runF p (cutB s a s.size) (cutB s a s.size).size j + a = runF p s s.size (j + a)
  | 0, j, h1, h2 => by
    have hz := zy2 (s := s) (a := a) (b := s.size) ha (Nat.le_refl _)
    rw [zq5 fun h => by omega, zq5 fun h => by omega]
  | f + 1, j, h1, h2 => by
    have hz := zy2 (s := s) (a := a) (b := s.size) ha (Nat.le_refl _)
    by_cases hj : j + a < s.size
    · have e : bAt (cutB s a s.size) j = bAt s (j + a) := by rw [zk4 (Nat.le_refl _) (by omega), Nat.add_comm]
      by_cases hp : p (bAt s (j + a)) = true
      · rw [(zx4 (by omega) (by rw [e]; exact hp)).1, (zx4 hj hp).1, Nat.add_right_comm j a 1]
        exact zv16 ha f (j + 1) (by omega) (by omega)
      · rw [zq5 fun h => hp (by rw [← e]; exact h.2), zq5 fun h => hp h.2]
    · rw [zq5 fun h => by omega, zq5 fun h => by omega]
theorem zz21 {s : ByteArray} {a b c : Nat} (h2 : b ≤ c) (h3 : a + c ≤ s.size) : cutB (cutB s a s.size) b c = cutB s (a + b) (a + c) := by
  have hz := zy2 (s := s) (a := a) (b := s.size) (by omega) (Nat.le_refl _)
  unfold cutB at hz ⊢
  apply ByteArray.ext
  apply Array.ext
  · have e1 : ((s.extract a s.size).extract b c).size = c - b := by rw [ByteArray.size_extract]; omega
    have e2 : (s.extract (a + b) (a + c)).size = c - b := by rw [ByteArray.size_extract]; omega
    exact e1.trans e2.symm
  · intro i h4 h5
    simp only [ByteArray.data_extract, Array.getElem_extract]
    congr 1
    omega
theorem zf19 {s : ByteArray} {a : Nat} {rex : Bool} (ha : a < s.size) : oneR s a rex = { oneR (cutB s a s.size) 0 rex with e := (oneR (cutB s a s.size) 0 rex).e + a } := by
  have hz := zy2 (s := s) (a := a) (b := s.size) (by omega) (Nat.le_refl _)
  have e0 : bAt (cutB s a s.size) 0 = bAt s a := by rw [zk4 (Nat.le_refl _) (by omega)]; rfl
  have hr : ∀ (p : Nat → Bool) (j : Nat), j + a ≤ s.size → runF p s s.size (j + a) = runF p (cutB s a s.size) (cutB s a s.size).size j + a := fun p j h => (zv16 (by omega) s.size j h (by omega)).symm
  have hc : ∀ b c : Nat, b ≤ c → a + c ≤ s.size → cutB (cutB s a s.size) b c = cutB s (a + b) (a + c) := fun b c => zz21
  have h0 : ∀ p : Nat → Bool, runF p s s.size a = runF p (cutB s a s.size) (cutB s a s.size).size 0 + a := fun p => by have := hr p 0 (by omega); rwa [Nat.zero_add] at this
  have hb : ∀ (p : Nat → Bool) (j : Nat), j ≤ s.size - a → j ≤ runF p (cutB s a s.size) (cutB s a s.size).size j ∧ runF p (cutB s a s.size) (cutB s a s.size).size j ≤ s.size - a := fun p j hj => by
    have := zv2 (p := p) (s := cutB s a s.size) (cutB s a s.size).size j (by omega) (by omega)
    omega
  unfold oneR
  rw [e0]
  split
  · rw [h0]
    have := hb digB 0 (by omega)
    rw [hc 0 _ (by omega) (by omega), Nat.add_zero, Nat.add_comm a (runF _ _ _ 0)]
  · split
    · rw [h0]
      have := hb ldB 0 (by omega)
      rw [hc 0 _ (by omega) (by omega), Nat.add_zero, Nat.add_comm a (runF _ _ _ 0)]
    · have quo : ∀ k : Int, quoR s a k = { quoR (cutB s a s.size) 0 k with e := (quoR (cutB s a s.size) 0 k).e + a } := fun k => by
        unfold quoR
        rw [e0, show a + 1 = (0 + 1) + a by omega, hr _ (0 + 1) (by omega)]
        have := hb (neB (bAt s a)) (0 + 1) (by omega)
        by_cases hq : runF (neB (bAt s a)) (cutB s a s.size) (cutB s a s.size).size (0 + 1) = (cutB s a s.size).size
        · rw [if_pos hq, if_pos (by omega)]
          simp only [Tk.mk.injEq, true_and]; omega
        · rw [if_neg hq, if_neg (by omega), hc _ _ (by omega) (by omega)]
          simp only [Nat.add_comm a, Tk.mk.injEq, true_and]; omega
      split
      · exact quo 3
      · split
        · exact quo 4
        · by_cases h2 : a + 1 < s.size
          · rw [hc 0 (0 + 2) (by omega) (by omega), hc 0 (0 + 1) (by omega) (by omega)]
            simp only [Nat.add_zero, Nat.zero_add]
            by_cases hm : markB (cutB s a (a + 2)) = true
            · rw [if_pos ⟨h2, hm⟩, if_pos ⟨by omega, hm⟩]
              simp only [Nat.add_comm a]
            · rw [if_neg fun h => hm h.2, if_neg fun h => hm h.2]
              simp only [Nat.add_comm a]
          · rw [if_neg fun h => h2 h.1, if_neg fun h => absurd h.1 (by omega), hc 0 (0 + 1) (by omega) (by omega)]
            simp only [Nat.add_zero, Nat.zero_add, Nat.add_comm a]
theorem zf10 {s : ByteArray} {a : Nat} {rex : Bool} (ha : a < s.size) : a < (oneR s a rex).e ∧ (oneR s a rex).e ≤ s.size := by
  have hq : ∀ k : Int, a < (quoR s a k).e ∧ (quoR s a k).e ≤ s.size := fun k => by
    have := zv2 (p := neB (bAt s a)) (s := s) s.size (a + 1) (by omega) (by omega)
    unfold quoR
    split
    · exact ⟨ha, Nat.le_refl _⟩
    · exact ⟨by show a < _ + 1; omega, by show _ + 1 ≤ _; omega⟩
  unfold oneR
  split
  · rename_i h
    exact ⟨(zx4 ha h).2, (zv2 (p := digB) (s := s) s.size a (by omega) (by omega)).2.1⟩
  · split
    · rename_i h
      exact ⟨(zx4 ha (show ldB (bAt s a) = true by simp [ldB, h])).2, (zv2 (p := ldB) (s := s) s.size a (by omega) (by omega)).2.1⟩
    · split
      · exact hq 3
      · split
        · exact hq 4
        · split
          · rename_i h; exact ⟨by show a < a + 2; omega, by show a + 2 ≤ _; omega⟩
          · exact ⟨by show a < a + 1; omega, by show a + 1 ≤ _; omega⟩
theorem za22 {s : ByteArray} {a b : Nat} : (cutB s a b).size ≤ s.size := by
  unfold cutB
  rw [ByteArray.size_extract]; omega
theorem zb22 {s : ByteArray} {a : Nat} {rex : Bool} {n : Nat} (hs : s.size ≤ n) (_ha : a < s.size) : (oneR s a rex).s.size ≤ n := by
  have h : ∀ b c, (cutB s b c).size ≤ n := fun b c => Nat.le_trans za22 hs
  have hq : ∀ k : Int, (quoR s a k).s.size ≤ n := fun k => by
    unfold quoR
    split
    · exact Nat.zero_le _
    · exact h _ _
  unfold oneR
  repeat' split
  all_goals first
    | exact Nat.zero_le _
    | exact h _ _
    | exact hq _
theorem za7 {s : ByteArray} : ∀ (f a : Nat), a ≤ s.size → a ≤ passF s f a ∧ passF s f a ≤ s.size
  | 0, a, h => ⟨Nat.le_refl _, h⟩
  | f + 1, a, h => by
    unfold passF
    split
    · split
      · have := za7 (s := s) f (a + 1) (by omega); omega
      · split
        · have h1 := zv2 (p := neB 10) (s := s) s.size a (by omega) (by omega)
          have := za7 (s := s) f (runF (neB 10) s s.size a) (by omega); omega
        · exact ⟨Nat.le_refl _, h⟩
    · exact ⟨Nat.le_refl _, h⟩
theorem zk6 {s : ByteArray} : ∀ (f g a : Nat), a ≤ s.size → s.size ≤ a + f → s.size ≤ a + g → passF s f a = passF s g a
  | 0, 0, a, _, _, _ => rfl
  | 0, g + 1, a, h1, h2, h3 => by unfold passF; rw [if_neg (by omega)]
  | f + 1, 0, a, h1, h2, h3 => by
    have : ¬ a < s.size := by omega
    show passF s (f + 1) a = a
    unfold passF; rw [if_neg this]
  | f + 1, g + 1, a, h1, h2, h3 => by
    unfold passF
    split
    · rename_i ha
      split
      · exact zk6 f g (a + 1) (by omega) (by omega) (by omega)
      · split
        · rename_i h4
          have h5 := (zx4 ha (show neB 10 (bAt s a) = true by simp [neB, h4])).2
          have h6 := zv2 (p := neB 10) (s := s) s.size a (by omega) (by omega)
          exact zk6 f g _ (by omega) (by omega) (by omega)
        · rfl
    · rfl
def passT (s : ByteArray) (a : Nat) : Nat := passF s (s.size + 1) a
theorem zr6 {s : ByteArray} {a : Nat} (ha : a < s.size) (h : blB (bAt s a) = true) : passT s a = passT s (a + 1) := by
  unfold passT
  rw [show passF s (s.size + 1) a = passF s s.size (a + 1) by rw [passF, if_pos ha, if_pos h]]
  exact zk6 _ _ _ (by omega) (by omega) (by omega)
theorem za9 {s : ByteArray} {a : Nat} (ha : a < s.size) (h : bAt s a = 35) : passT s a = passT s (runF (neB 10) s s.size a) := by
  have h6 := zv2 (p := neB 10) (s := s) s.size a (by omega) (by omega)
  unfold passT
  rw [show passF s (s.size + 1) a = passF s s.size (runF (neB 10) s s.size a) by rw [passF, if_pos ha, if_neg (by simp [blB, h]), if_pos h]]
  exact zk6 _ _ _ (by omega) (by omega) (by omega)
theorem zj5 {s : ByteArray} {a : Nat} (h : ¬ (a < s.size ∧ (blB (bAt s a) = true ∨ bAt s a = 35))) : passT s a = a := by
  unfold passT passF
  split
  · rename_i ha
    rw [if_neg fun hb => h ⟨ha, .inl hb⟩, if_neg fun hb => h ⟨ha, .inr hb⟩]
  · rfl
theorem zr14 {s : ByteArray} {a : Nat} (ha : a < s.size) (h : bAt s a = 35) (hr : runF (neB 10) s s.size a < s.size) : passT s a = passT s (runF (neB 10) s s.size a + 1) := by
  have h6 := zv2 (p := neB 10) (s := s) s.size a (by omega) (by omega)
  rw [za9 ha h, zr6 hr]
  have h7 := h6.2.2.2 hr
  simp [neB] at h7
  simp [blB, h7]
theorem zi11 {s : ByteArray} : ∀ (f g a : Nat) (rex : Bool) (out : List E), a ≤ s.size → s.size < a + f → s.size < a + g → lexR s f a rex out = lexR s g a rex out
  | 0, _, a, _, _, h1, h2, _ => by omega
  | _ + 1, 0, a, _, _, h1, _, h3 => by omega
  | f + 1, g + 1, a, rex, out, h1, h2, h3 => by
    unfold lexR
    split
    · rename_i ha
      have h4 := zf10 (rex := rex) ha
      have h5 := za7 (s := s) (s.size + 1) (oneR s a rex).e h4.2
      split
      · exact zi11 f g _ _ _ h5.2 (by omega) (by omega)
      · rfl
    · rfl
def lexT (s : ByteArray) (a : Nat) (rex : Bool) (out : List E) : List E × Int := lexR s (s.size + 1) a rex out
theorem zk12 {s : ByteArray} {a : Nat} {rex : Bool} {out : List E} (h : ¬ a < s.size) : lexT s a rex out = (out, -1) := by
  unfold lexT lexR; rw [if_neg h]
theorem zk20 {s : ByteArray} {a : Nat} {rex : Bool} {out : List E} (ha : a < s.size) (h : ¬ ((oneR s a rex).ok = true ∧ out.length ≠ 2000)) : lexT s a rex out = ([], (a : Int)) := by
  unfold lexT lexR; rw [if_pos ha, if_neg h]
theorem zl12 {s : ByteArray} {a : Nat} {rex : Bool} {out : List E} (ha : a < s.size) (h1 : (oneR s a rex).ok = true) (h2 : out.length ≠ 2000) : lexT s a rex out = lexT s (passT s (oneR s a rex).e) (tilB (oneR s a rex).k (oneR s a rex).s) (out ++ [(oneR s a rex).E]) := by
  have h4 := zf10 (rex := rex) ha
  have h5 := za7 (s := s) (s.size + 1) (oneR s a rex).e h4.2
  unfold lexT
  rw [show lexR s (s.size + 1) a rex out = lexR s s.size (passF s (s.size + 1) (oneR s a rex).e) (tilB (oneR s a rex).k (oneR s a rex).s) (out ++ [(oneR s a rex).E]) by rw [lexR, if_pos ha, if_pos ⟨h1, h2⟩]]
  exact zi11 _ _ _ _ _ h5.2 (by omega) (by omega)
theorem zw16 {s : ByteArray} {a : Nat} (h : a ≤ s.size) : a ≤ passT s a ∧ passT s a ≤ s.size := za7 _ _ h
def lexW (s : ByteArray) : List E × Int := lexT s (passT s 0) false []
end Go.Proofs.YtnlgmojciplnoaaDoor
