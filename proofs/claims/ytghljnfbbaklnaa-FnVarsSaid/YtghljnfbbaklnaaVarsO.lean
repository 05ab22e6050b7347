/- spec.l2Num: by the abstract machine. -/
import Derived.Test.YtghljnfbbaklnaaVarsN
namespace Go.Proofs.Ytghljnfbbaklnaa
open Go.RowKit
set_option maxRecDepth 100000
theorem zv16 (k : Nat) : (-(k : Int)).tdiv 10 = -((k / 10 : Nat) : Int) := by rw [Int.neg_tdiv]; rfl
theorem zw16 (k : Nat) : (-(k : Int)).tmod 10 = -((k % 10 : Nat) : Int) := by rw [Int.neg_tmod]; rfl
theorem zb12 {k : Nat} (h : 0 < k) : numT (-(k : Int)) = ⟨(45 :: Lib.decDigits k).toArray⟩ := by
  unfold numT Lib.itoa
  rw [if_pos (by omega)]
  simp
theorem zd7 (k : Nat) : numT (k : Int) = ⟨(Lib.decDigits k).toArray⟩ := by
  unfold numT Lib.itoa
  rw [if_neg (by omega)]
  simp
theorem zx10 {k : Nat} (h : ¬ k < 10) : Lib.decDigits k = Lib.decDigits (k / 10) ++ [UInt8.ofNat (48 + k % 10)] := by
  rw [Lib.decDigits, dif_neg h]
theorem zo6 {k : Nat} (h : k < 10) : Lib.decDigits k = [UInt8.ofNat (48 + k)] := by
  rw [Lib.decDigits, dif_pos h]
theorem zv8 {n : Int} (h0 : -9223372036854775808 ≤ n) (h1 : n ≤ 9223372036854775807) : (numT n).size ≤ 20 := by
  have key : ∀ (f k : Nat), k < 10 ^ (f + 1) → (Lib.decDigits k).length ≤ f + 1 := by
    intro f
    induction f with
    | zero => intro k hk; rw [zo6 (by simpa using hk)]; simp
    | succ f ih =>
      intro k hk
      by_cases h : k < 10
      · rw [zo6 h]; simp
      · rw [zx10 h, List.length_append]
        have := ih (k / 10) (by rw [Nat.pow_succ] at hk; omega)
        simp only [List.length_cons, List.length_nil]; omega
  unfold numT Lib.itoa
  show (List.toArray _).size ≤ 20
  rw [List.size_toArray]
  split
  · have := key 18 n.natAbs (by omega)
    rw [List.length_cons]; omega
  · have := key 18 n.toNat (by omega)
    omega
theorem u8of {z : Int} {d : Nat} (e : z = ((48 + d : Nat) : Int)) (h : d < 10) : UInt8.ofNat (IntKind.u8.wrap (IntKind.i64.wrap z)).toNat = UInt8.ofNat (48 + d) := by
  subst e
  rw [zc7 (by omega) (by omega), IntKind.wrap_u8]
  have : (((48 + d : Nat) : Int) % 256).toNat = 48 + d := by omega
  rw [this]
theorem za21 (x : List UInt8) (b : UInt8) : (ByteArray.mk #[45]) ++ ⟨x.toArray⟩ ++ ⟨[b].toArray⟩ = ⟨(45 :: (x ++ [b])).toArray⟩ := by
  rw [show (ByteArray.mk #[45]) = ⟨[45].toArray⟩ from rfl, ByteArray.mk_append_mk, ByteArray.mk_append_mk]; rfl
theorem zg15 (m : Nat) : ∀ n : Int, n.natAbs ≤ m → -9223372036854775808 ≤ n → n ≤ 9223372036854775807 → Ctr Try.prog 83 [.c (.v (.int .i64 n))] [] (.c (.v (.string (numT n)))) [] := by
  induction m using Nat.strongRecOn with
  | _ m ih =>
  intro n hm h0 h1
  rcases Int.lt_or_le n (-9) with h | h
  · obtain ⟨k, rfl⟩ : ∃ k : Nat, n = -(k : Int) := ⟨n.natAbs, by omega⟩
    have hc := ih (k / 10) (by omega) ((k / 10 : Nat) : Int) (by omega) (by omega) (by omega)
    clear ih
    have e1 : IntKind.i64.wrap (0 - IntKind.i64.wrap ((-(k : Int)).tdiv 10)) = ((k / 10 : Nat) : Int) := by
      rw [zv16, zc7 (z := -((k / 10 : Nat) : Int)) (by omega) (by omega), zc7 (by omega) (by omega)]; omega
    have hc' : Ctr Try.prog 83 [.c (.v (.int .i64 (IntKind.i64.wrap (0 - IntKind.i64.wrap ((-(k : Int)).tdiv 10)))))] [] (.c (.v (.string (numT ((k / 10 : Nat) : Int))))) [] := by rw [e1]; exact hc
    clear hc
    refine zt1 Try.func83 rfl rfl ?_
    have hz := zv8 (n := ((k / 10 : Nat) : Int)) (by omega) (by omega)
    repeat' (first | refine zl ?_ | refine zf ?_ | refine zh ?_ | refine zi ?_ | refine zb fun C => ?_ | refine ze (by kernel_rfl) (by kernel_rfl) fun C => ?_ | refine zd ?_ | (refine x_gm ?_ ?_ <;> intro hG <;> (try cases hG)) | refine zp1 ?_ | refine zp14 ?_ | refine zq14 ?_ | refine x_bs ?_ | refine x_gr ?_ | refine x_st ?_ | refine x_mv ?_ | refine x_sk ?_ | refine zz1 ?_ | refine x_ix ?_ | refine za2 ?_ | refine zb2 ?_ | refine zs1 ?_ | refine zs1 (hnu := zg _) ?_ | refine ze1 ?_ | refine ze1 (hnu := zg _) ?_ | refine x_ld ?_ | refine zo14 ?_ | refine zg16 ?_ | (refine zd2 (by rfl) ?_ ?_ <;> intro hC <;> (try cases hC)))
    all_goals first
      | (exfalso; clear hc' e1; simp at *; omega)
      | skip
    refine zu ?_
    refine ret0 rfl zb5 ⟨?_, rfl⟩
    refine congrArg (fun s => AV.c (AC.v (Value.string s))) ?_
    rw [u8of (d := k % 10) (by rw [zw16]; omega) (by omega), zd7, za21, zb12 (by omega), zx10 (k := k) (by omega)]
  · rcases Int.lt_or_le n 0 with h2 | h2
    · obtain ⟨k, rfl⟩ : ∃ k : Nat, n = -(k : Int) := ⟨n.natAbs, by omega⟩
      clear ih
      refine zt1 Try.func83 rfl rfl ?_
      repeat' (first | refine zl ?_ | refine zf ?_ | refine zh ?_ | refine zi ?_ | refine zb fun C => ?_ | refine ze (by kernel_rfl) (by kernel_rfl) fun C => ?_ | refine zd ?_ | (refine x_gm ?_ ?_ <;> intro hG <;> (try cases hG)) | refine zp1 ?_ | refine zp14 ?_ | refine zq14 ?_ | refine x_bs ?_ | refine x_gr ?_ | refine x_st ?_ | refine x_mv ?_ | refine x_sk ?_ | refine zz1 ?_ | refine x_ix ?_ | refine za2 ?_ | refine zb2 ?_ | refine zs1 ?_ | refine zs1 (hnu := zg _) ?_ | refine ze1 ?_ | refine ze1 (hnu := zg _) ?_ | refine x_ld ?_ | refine zo14 ?_ | refine zg16 ?_ | (refine zd2 (by rfl) ?_ ?_ <;> intro hC <;> (try cases hC)))
      all_goals first
        | (exfalso; simp at *; omega)
        | skip
      refine zu ?_
      refine ret0 rfl zb5 ⟨?_, rfl⟩
      refine congrArg (fun s => AV.c (AC.v (Value.string s))) ?_
      rw [u8of (d := k) (by omega) (by omega), zb12 (by omega), zo6 (k := k) (by omega)]; rfl
    · obtain ⟨k, rfl⟩ : ∃ k : Nat, n = (k : Int) := ⟨n.natAbs, by omega⟩
      rcases Nat.lt_or_ge k 10 with h3 | h3
      · clear ih
        refine zt1 Try.func83 rfl rfl ?_
        repeat' (first | refine zl ?_ | refine zf ?_ | refine zh ?_ | refine zi ?_ | refine zb fun C => ?_ | refine ze (by kernel_rfl) (by kernel_rfl) fun C => ?_ | refine zd ?_ | (refine x_gm ?_ ?_ <;> intro hG <;> (try cases hG)) | refine zp1 ?_ | refine zp14 ?_ | refine zq14 ?_ | refine x_bs ?_ | refine x_gr ?_ | refine x_st ?_ | refine x_mv ?_ | refine x_sk ?_ | refine zz1 ?_ | refine x_ix ?_ | refine za2 ?_ | refine zb2 ?_ | refine zs1 ?_ | refine zs1 (hnu := zg _) ?_ | refine ze1 ?_ | refine ze1 (hnu := zg _) ?_ | refine x_ld ?_ | refine zo14 ?_ | refine zg16 ?_ | (refine zd2 (by rfl) ?_ ?_ <;> intro hC <;> (try cases hC)))
        all_goals first
          | (exfalso; simp at *; omega)
          | skip
        refine zu ?_
        refine ret0 rfl zb5 ⟨?_, rfl⟩
        refine congrArg (fun s => AV.c (AC.v (Value.string s))) ?_
        rw [u8of (d := k) (by omega) (by omega), zd7, zo6 (k := k) (by omega)]
      · have hc := ih (k / 10) (by omega) ((k / 10 : Nat) : Int) (by omega) (by omega) (by omega)
        clear ih
        have e1 : IntKind.i64.wrap ((k : Int).tdiv 10) = ((k / 10 : Nat) : Int) := by
          rw [show ((k : Int).tdiv 10) = ((k / 10 : Nat) : Int) from rfl, zc7 (by omega) (by omega)]
        have hc' : Ctr Try.prog 83 [.c (.v (.int .i64 (IntKind.i64.wrap ((k : Int).tdiv 10))))] [] (.c (.v (.string (numT ((k / 10 : Nat) : Int))))) [] := by rw [e1]; exact hc
        clear hc
        refine zt1 Try.func83 rfl rfl ?_
        have hz := zv8 (n := ((k / 10 : Nat) : Int)) (by omega) (by omega)
        repeat' (first | refine zl ?_ | refine zf ?_ | refine zh ?_ | refine zi ?_ | refine zb fun C => ?_ | refine ze (by kernel_rfl) (by kernel_rfl) fun C => ?_ | refine zd ?_ | (refine x_gm ?_ ?_ <;> intro hG <;> (try cases hG)) | refine zp1 ?_ | refine zp14 ?_ | refine zq14 ?_ | refine x_bs ?_ | refine x_gr ?_ | refine x_st ?_ | refine x_mv ?_ | refine x_sk ?_ | refine zz1 ?_ | refine x_ix ?_ | refine za2 ?_ | refine zb2 ?_ | refine zs1 ?_ | refine zs1 (hnu := zg _) ?_ | refine ze1 ?_ | refine ze1 (hnu := zg _) ?_ | refine x_ld ?_ | refine zo14 ?_ | refine zg16 ?_ | (refine zd2 (by rfl) ?_ ?_ <;> intro hC <;> (try cases hC)))
        all_goals first
          | (exfalso; clear hc' e1; simp at *; omega)
          | skip
        refine zu ?_
        refine ret0 rfl zb5 ⟨?_, rfl⟩
        refine congrArg (fun s => AV.c (AC.v (Value.string s))) ?_
        rw [u8of (d := k % 10) (by rw [show ((k : Int).tmod 10) = ((k % 10 : Nat) : Int) from rfl]; omega) (by omega), zd7, zd7, zx10 (k := k) (by omega)]
        exact ByteArray.mk_append_mk _ _
def nmD (q : ByteArray) (a b : Int) (s : ByteArray) : E := .agg [.str q, .agg [.int .i64 a, .int .i64 b, .str s]]
def tbD (q : ByteArray) (A : Option Addr) (c : Nat) (l : List E) : E := .agg [.str q, .lst 4 82 A c l]
def envE (vs ts : List E) : E := .agg [.lst 4 34 none 0 vs, .lst 2 80 none 0 ts]
def NmOk (x : E) : Prop := ∃ (q : ByteArray) (a b : Int) (s : ByteArray), q.size ≤ 201 ∧ VOk a b s ∧ x = nmD q a b s
def TbOk (n : Nat) (x : E) : Prop := ∃ (q : ByteArray) (A : Option Addr) (c : Nat) (l : List E), q.size ≤ 201 ∧ l.length ≤ n ∧ (∀ y ∈ l, NmOk y) ∧ x = tbD q A c l
def EOk (n : Nat) (vs ts : List E) : Prop := vs.length ≤ 3 ∧ ts.length ≤ 3 ∧ (∀ x ∈ vs, NmOk x) ∧ ∀ x ∈ ts, TbOk n x
theorem NmOk.nm {l : List E} (h : ∀ x ∈ l, NmOk x) : Nms l := fun x hx => by
  obtain ⟨q, a, b, s, -, -, rfl⟩ := h x hx
  exact ⟨q, _, rfl⟩
theorem zh15 {q : ByteArray} (h : q.size ≤ 201) : (E.str q).Ty Try.prog 9 := by simp only [E.Ty]; exact ⟨Try.underlying9, by unfold maxLen; omega⟩
theorem NmOk.sz {x : E} (h : NmOk x) : x.sz ≤ 402 ∧ x.enc.length = 4 := by
  obtain ⟨q, a, b, s, h1, h2, rfl⟩ := h
  have := h2.2.2
  exact ⟨by simp only [nmD, E.sz, E.szL]; omega, rfl⟩
theorem NmOk.named {x : E} (h : NmOk x) : x.Ty Try.prog 34 := by
  obtain ⟨q, a, b, s, h1, h2, rfl⟩ := h
  exact E.Ty.mk_agg Try.underlying34 (E.TyF.mk_cons (zh15 h1) (E.TyF.mk_cons h2.ty E.TyF.mk_nil))
theorem NmOk.entry {x : E} (h : NmOk x) : x.Ty Try.prog 82 := by
  obtain ⟨q, a, b, s, h1, h2, rfl⟩ := h
  exact E.Ty.mk_agg Try.underlying82 (E.TyF.mk_cons (zh15 h1) (E.TyF.mk_cons h2.ty E.TyF.mk_nil))
theorem TbOk.ty {n : Nat} {x : E} (h : TbOk n x) : x.Ty Try.prog 80 ∧ x.enc.length = 2 ∧ x.sz ≤ 201 + n * 403 := by
  obtain ⟨q, A, c, l, h1, h2, h3, rfl⟩ := h
  refine ⟨E.Ty.mk_agg Try.underlying80 (E.TyF.mk_cons (zh15 h1) (E.TyF.mk_cons (E.Ty.mk_lst Try.underlying78 (by kernel_rfl) (fun y hy => (h3 y hy).entry) (fun y hy => (h3 y hy).sz.2)) E.TyF.mk_nil)), rfl, ?_⟩
  have := zz11 fun y hy => (h3 y hy).sz.1
  have : l.length * 402 ≤ n * 402 := Nat.mul_le_mul_right _ h2
  simp only [tbD, E.sz, E.szL]; omega
theorem EOk.ty {n : Nat} {vs ts : List E} (h : EOk n vs ts) : (envE vs ts).Ty Try.prog 27 :=
  E.Ty.mk_agg Try.underlying27 (E.TyF.mk_cons (E.Ty.mk_lst Try.underlying24 (by kernel_rfl) (fun y hy => (h.2.2.1 y hy).named) (fun y hy => (h.2.2.1 y hy).sz.2)) (E.TyF.mk_cons (E.Ty.mk_lst Try.underlying25 (by kernel_rfl) (fun y hy => (h.2.2.2 y hy).ty.1) (fun y hy => (h.2.2.2 y hy).ty.2.1)) E.TyF.mk_nil))
theorem EOk.sz {n : Nat} {vs ts : List E} (h : EOk n vs ts) (hn : n ≤ 100) : (envE vs ts).sz ≤ 1048576 := by
  have h1 := zz11 fun y hy => (h.2.2.1 y hy).sz.1
  have h2 := zz11 fun y hy => (h.2.2.2 y hy).ty.2.2
  have h3 := h.1
  have h4 := h.2.1
  have h5 : n * 403 ≤ 100 * 403 := Nat.mul_le_mul_right _ hn
  have h6 : ts.length * (201 + n * 403) ≤ 3 * (201 + 100 * 403) := Nat.mul_le_mul h4 (by omega)
  simp only [envE, E.sz, E.szL]; omega
theorem TbOk.mono {n m : Nat} {x : E} (h : TbOk n x) (hm : n ≤ m) : TbOk m x := by
  obtain ⟨q, A, c, l, h1, h2, h3, rfl⟩ := h
  exact ⟨q, A, c, l, h1, by omega, h3, rfl⟩
theorem EOk.mono {n m : Nat} {vs ts : List E} (h : EOk n vs ts) (hm : n ≤ m) : EOk m vs ts := ⟨h.1, h.2.1, h.2.2.1, fun x hx => (h.2.2.2 x hx).mono hm⟩
theorem zd19 {n : Nat} {l : List E} (h : ∀ y ∈ l, NmOk y) (hn : l.length ≤ n) {s : ByteArray} (hs : s.size ≤ 201) {a b : Int} {t : ByteArray} (hv : VOk a b t) : (∀ y ∈ putL l s (.agg [.int .i64 a, .int .i64 b, .str t]), NmOk y) ∧ (putL l s (.agg [.int .i64 a, .int .i64 b, .str t])).length ≤ n + 1 := by
  unfold putL
  split
  · rename_i i hi
    refine ⟨fun y hy => ?_, by rw [List.length_set]; omega⟩
    rcases List.mem_or_eq_of_mem_set hy with h1 | rfl
    · exact h y h1
    · obtain ⟨x, hx, -⟩ := zr7 hi
      obtain ⟨q, a0, b0, s0, g1, -, rfl⟩ := h x (List.mem_of_getElem? hx)
      simp only [hx, Option.getD_some]
      exact ⟨q, a, b, t, g1, hv, rfl⟩
  · split
    · exact ⟨h, by omega⟩
    · refine ⟨fun y hy => ?_, by simp; omega⟩
      rcases List.mem_append.1 hy with h1 | h1
      · exact h y h1
      · rw [List.mem_singleton] at h1; subst h1; exact ⟨s, a, b, t, hs, hv, rfl⟩
theorem EOk.put {n : Nat} {vs ts : List E} (h : EOk n vs ts) (nm : ByteArray) {s : ByteArray} (hs : s.size ≤ 201) {a b : Int} {t : ByteArray} (hv : VOk a b t) : ∃ ts', putE (envE vs ts) nm s (.agg [.int .i64 a, .int .i64 b, .str t]) = envE vs ts' ∧ EOk (n + 1) vs ts' ∧ ts'.length = ts.length := by
  rcases zn4 (isNm nm) ts with h0 | ⟨k, h0, hlt⟩
  · exact ⟨ts, (zv9 h0).1, h.mono (by omega), rfl⟩
  · obtain ⟨x, hx⟩ : ∃ x, ts[k]? = some x := ⟨_, List.getElem?_eq_getElem hlt⟩
    obtain ⟨q, A, c, l, h1, h2, h3, rfl⟩ := h.2.2.2 x (List.mem_of_getElem? hx)
    refine ⟨_, (zw9 h0 hx).1, ⟨h.1, by rw [List.length_set]; exact h.2.1, h.2.2.1, fun y hy => ?_⟩, by rw [List.length_set]⟩
    rcases List.mem_or_eq_of_mem_set hy with h4 | rfl
    · exact (h.2.2.2 y h4).mono (by omega)
    · obtain ⟨g1, g2⟩ := zd19 h3 h2 hs hv
      exact ⟨q, none, 0, _, h1, g2, g1, rfl⟩
theorem za10 {a b : Int} {s : ByteArray} (hv : VOk a b s) : ∃ t : ByteArray, t.size ≤ 201 ∧ Ctr Try.prog 95 [.ag [.v (.int .i64 a), .v (.int .i64 b), .v (.string s)]] [] (.c (.v (.string t))) [] := by
  have hc := zg15 _ b (Nat.le_refl _) hv.2.1.1 hv.2.1.2
  by_cases h : a = 1
  · subst h
    refine ⟨numT b, by have := zv8 hv.2.1.1 hv.2.1.2; omega, zt1 Try.func95 rfl rfl ?_⟩
    repeat' (first | ((apply f_wo); first | ((apply f_as); first | refine zl1 (v := .c _) ?_ | refine za ?_) | ((apply f_fa); first | refine n_fa ?_ | refine zj2 ?_) | ((apply f_ld); first | refine zc4 ?_ | refine zw2 ?_ | refine n_ld ?_) | ((apply f_ca); first | refine zo4 (hc) ?_ | refine zm4 (hc) ?_) | ((apply zk3); first | refine zh1 ?_ | refine za ?_) | refine n_bo ?_ | refine za ?_) | ((apply f_w); first | refine zb1 ?_ | refine zd ?_) | refine zb fun C => ?_ | refine zl ?_ | refine zf ?_ | refine zh ?_ | refine zi ?_ | refine zf1 rfl ?_ | refine zg1 rfl ?_)
    refine zu ?_; refine ret0 rfl zb5 ⟨?_, rfl⟩
    rfl
  · refine ⟨s, hv.2.2, zt1 Try.func95 rfl rfl ?_⟩
    repeat' (first | ((apply f_wo); first | ((apply f_as); first | refine zl1 (v := .c _) ?_ | refine za ?_) | ((apply f_fa); first | refine n_fa ?_ | refine zj2 ?_) | ((apply f_ld); first | refine zc4 ?_ | refine zw2 ?_ | refine n_ld ?_) | ((apply zk3); first | refine zh1 ?_ | refine za ?_) | refine n_bo ?_ | refine za ?_) | ((apply f_w); first | refine zb1 ?_ | refine zd ?_) | refine zb fun C => ?_ | refine zl ?_ | refine zf ?_ | refine zh ?_ | refine zi ?_)
    refine zc2 (by rfl) (fun hC => absurd (eq_of_beq hC) h) fun hC => ?_
    repeat' (first | ((apply f_wo); first | ((apply f_as); first | refine zl1 (v := .c _) ?_ | refine za ?_) | ((apply f_fa); first | refine n_fa ?_ | refine zj2 ?_) | ((apply f_ld); first | refine zc4 ?_ | refine zw2 ?_ | refine n_ld ?_) | ((apply zk3); first | refine zh1 ?_ | refine za ?_) | refine n_bo ?_ | refine za ?_) | ((apply f_w); first | refine zb1 ?_ | refine zd ?_) | refine zb fun C => ?_ | refine zl ?_ | refine zf ?_ | refine zh ?_ | refine zi ?_)
    refine zu ?_; refine ret0 rfl zb5 ⟨?_, rfl⟩
    rfl
end Go.Proofs.Ytghljnfbbaklnaa
-- MVP
namespace Go.Proofs.Ytghljnfbbaklnaa
open Go.RowKit
set_option maxRecDepth 100000
def StepE (cs : List AC) (vs ts : List E) (cs' : List AC) (ts' : List E) : Prop := ∃ (nm : ByteArray) (cs1 cs2 cs3 : List AC) (a b : Int) (s t : ByteArray) (a2 b2 : Int) (s2 : ByteArray), Curs cs1 ∧ Curs cs2 ∧
  Ctr Try.prog 38 [.c (.pt 0 0), .c (.ro (strL [⟨#[116]⟩, ⟨#[117]⟩]).length 1 (acL (strL [⟨#[116]⟩, ⟨#[117]⟩])))] [cs] (.c (.v (.string nm))) [cs1] ∧
  Ctr Try.prog 84 [.c (.pt 0 0)] [cs1] (.ag [.v (.int .i64 a), .v (.int .i64 b), .v (.string s)]) [cs2] ∧
  Ctr Try.prog 95 [.ag [.v (.int .i64 a), .v (.int .i64 b), .v (.string s)]] [] (.c (.v (.string t))) [] ∧
  Ctr Try.prog 84 [.c (.pt 0 0)] [cs2] (.ag [.v (.int .i64 a2), .v (.int .i64 b2), .v (.string s2)]) [cs'] ∧ cs3 = cs' ∧
  Ctr Try.prog 59 [.c (.pt 0 0), .c (.v (.string nm)), .c (.v (.string t)), .ag [.v (.int .i64 a2), .v (.int .i64 b2), .v (.string s2)]] [owE (envE vs ts)] (.c (.v (.bool (putOk (envE vs ts) nm t)))) [owE (envE vs ts')]
def RE (vs : List E) : Nat → List AC → List E → List AC → List E → Prop
  | 0, cs, ts, cs', ts' => Curs cs ∧ cs' = cs ∧ ts' = ts
  | n + 1, cs, ts, cs', ts' => Curs cs ∧ ∃ cs1 t1, StepE cs vs ts cs1 t1 ∧ RE vs n cs1 t1 cs' ts'
theorem ze19 {vs : List E} {n : Nat} {cs cs' : List AC} {l l' : List E} (h : RE vs n cs l cs' l') : Curs cs := by
  cases n <;> exact h.1
theorem ze20 (vs : List E) : ∀ (n m : Nat) (cs : List AC) (ts : List E), Curs cs → EOk m vs ts → m + n ≤ 8 → ∃ cs' ts', Curs cs' ∧ EOk 8 vs ts' ∧ ts'.length = ts.length ∧ RE vs n cs ts cs' ts'
  | 0, m, cs, ts, hc, hl, hm => ⟨cs, ts, hc, hl.mono (by omega), rfl, hc, rfl, rfl⟩
  | n + 1, m, cs, ts, hc, hl, hm => by
    obtain ⟨nm, cs1, h1, hnm, c1⟩ := zp6 hc [⟨#[116]⟩, ⟨#[117]⟩] (by decide)
    obtain ⟨a, b, s, cs2, h2, hv, c2⟩ := zn6 h1
    obtain ⟨t, ht, c3⟩ := za10 hv
    obtain ⟨a2, b2, s2, cs3, h3, hv2, c4⟩ := zn6 h2
    obtain ⟨ts1, e1, h4, el⟩ := hl.put nm ht hv2
    have c5 := za12 hl.ty hv2.ty nm t (hl.sz (by omega))
    rw [e1] at c5
    obtain ⟨cs', ts', h5, h6, el2, h7⟩ := ze20 vs n (m + 1) cs3 ts1 h3 h4 (by omega)
    exact ⟨cs', ts', h5, h6, el2.trans el, hc, cs3, ts1, ⟨nm, cs1, cs2, cs3, a, b, s, t, a2, b2, s2, h1, h2, c1, c2, c3, c4, rfl, c5⟩, h7⟩
theorem zi15 {cs : List AC} (hc : Curs cs) : ∃ (vs ts : List E) (cs' : List AC), Curs cs' ∧ EOk 8 vs ts ∧ vs.length = 2 ∧ ts.length = 2 ∧ Ctr Try.prog 81 [.c (.pt 0 0)] [cs] (.ag (owE (envE vs ts))) [cs'] := by
  have cc := zc1 hc
  obtain ⟨a, b, s, cs1, h1, hv, c1⟩ := zn6 hc
  have cc1 := zc1 h1
  obtain ⟨a2, b2, s2, cs2, h2, hv2, c2⟩ := zn6 h1
  have cc2 := zc1 h2
  obtain ⟨n, cs3, h3, hn, c3⟩ := zl4 h2 6 (by decide)
  have cc3 := zc1 h3
  have h0 : EOk 0 [nmD ⟨#[120]⟩ a b s, nmD ⟨#[121]⟩ a2 b2 s2] [tbD ⟨#[116]⟩ none 0 [], tbD ⟨#[117]⟩ none 0 []] := by
    refine ⟨by simp, by simp, fun x hx => ?_, fun x hx => ?_⟩
    · simp only [List.mem_cons, List.not_mem_nil, or_false] at hx
      rcases hx with rfl | rfl
      · exact ⟨_, _, _, _, by decide, hv, rfl⟩
      · exact ⟨_, _, _, _, by decide, hv2, rfl⟩
    · simp only [List.mem_cons, List.not_mem_nil, or_false] at hx
      rcases hx with rfl | rfl
      · exact ⟨_, none, 0, [], by decide, by decide, (fun y hy => by cases hy), rfl⟩
      · exact ⟨_, none, 0, [], by decide, by decide, (fun y hy => by cases hy), rfl⟩
  obtain ⟨cs', ts', h4, h5, el, hR⟩ := ze20 _ n 0 cs3 _ h3 h0 (by omega)
  have cc' := zc1 h4
  have hne : ts'.length = 2 := el
  refine ⟨_, ts', cs', h4, h5, rfl, hne, zt1 Try.func81 rfl rfl ?_⟩
  refine zl ?_
  refine zb fun C => ?_
  repeat' (first | ((apply f_wo); first | ((apply f_mv); first | refine zj1 (v := .c _) ?_ | refine za ?_) | ((apply f_as); first | refine zl1 (v := .c _) ?_ | refine za ?_) | ((apply f_ld); first | refine zm1 ?_ | refine zk2 ?_ | refine n_ld ?_) | ((apply f_st); first | refine n_st ?_ | refine zm2 ?_) | ((apply zt10); first | refine zc5 ?_ | refine za ?_) | ((apply f_bb); first | refine zq2 ?_ | refine zr2 ?_ | refine za ?_) | refine n_al ?_ | refine n_bs ?_ | refine za ?_) | ((apply f_w); first | refine zb1 ?_ | refine zd ?_))
  refine zl ?_
  refine zb fun C => ?_
  repeat' (first | ((apply f_wo); first | ((apply f_mv); first | refine zj1 (v := .c _) ?_ | refine za ?_) | ((apply f_as); first | refine zl1 (v := .c _) ?_ | refine za ?_) | ((apply f_ld); first | refine zm1 ?_ | refine zk2 ?_ | refine n_ld ?_) | ((apply f_ca); first | refine zj3 0 (c1) ?_ (hl := zo1 (by rfl) cc) | refine zj3 0 (c2) ?_ (hl := zo1 (by rfl) cc1)) | ((apply f_st); first | refine n_st ?_ | refine zm2 ?_) | ((apply zt10); first | refine zc5 ?_ | refine za ?_) | ((apply f_bb); first | refine zq2 ?_ | refine zr2 ?_ | refine za ?_) | refine n_al ?_ | refine n_bs ?_ | refine za ?_) | ((apply f_w); first | refine zb1 ?_ | refine zd ?_))
  refine zu2 (zo8 (i := 14) rfl (CLe.cons _ (CLe.nil 82 4 (CLe.cons _ (CLe.nil 82 4 (CLe.refl [])))))) ?_
  refine zu2 (zz5 (i := 3) (j := 11) rfl rfl rfl (pre := []) (post := [_]) rfl) ?_
  refine zu2 (zz5 (i := 3) (j := 14) rfl rfl rfl (pre := [_]) (post := []) rfl) ?_
  repeat' (first | ((apply f_wo); first | ((apply f_mv); first | refine zj1 (v := .c _) ?_ | refine za ?_) | ((apply f_as); first | refine zl1 (v := .c _) ?_ | refine za ?_) | ((apply f_ld); first | refine zm1 ?_ | refine zk2 ?_ | refine n_ld ?_) | ((apply f_ca); first | refine zj3 0 (c3) ?_ (hl := zo1 (by rfl) cc2)) | ((apply f_st); first | refine n_st ?_ | refine zm2 ?_) | ((apply zt10); first | refine zc5 ?_ | refine za ?_) | ((apply f_bb); first | refine zq2 ?_ | refine zr2 ?_ | refine za ?_) | refine n_al ?_ | refine n_bs ?_ | refine za ?_) | ((apply f_w); first | refine zb1 ?_ | refine zd ?_) | refine zb fun C => ?_ | refine zl ?_ | refine zf ?_ | refine zh ?_ | refine zi ?_)
  refine zw3 (fun d : Nat × List AC × List E => ⟨tmsF [(0, .c (.pt 0 0)), (2, .c (.pt 2 0)), (3, .c (.pt 3 0)), (4, .c (.v (.int .i64 (d.1 : Int))))], hpsF [(0, 0, ⟨0, 0, 0, true, d.2.1⟩), (2, 2, ⟨27, 0, 0, true, [.v (.slice none 0 0), .v (.slice none 0 0)]⟩), (3, 3, ⟨27, 0, 0, true, owE (envE [nmD ⟨#[120]⟩ a b s, nmD ⟨#[121]⟩ a2 b2 s2] d.2.2)⟩)], 1, [0, 2, 3], 32⟩)
    (fun N d => N = d.1 ∧ d.1 ≤ 8 ∧ RE [nmD ⟨#[120]⟩ a b s, nmD ⟨#[121]⟩ a2 b2 s2] d.1 d.2.1 d.2.2 cs' ts') n (n, cs3, [tbD ⟨#[116]⟩ none 0 [], tbD ⟨#[117]⟩ none 0 []]) ⟨rfl, by omega, hR⟩ ?_ ?_
  · (refine zv2 _ _ rfl rfl ?_ ?_ <;> (repeat' (first | exact TmOk.nil | exact RwOk.nil | refine TmOk.cons ?_ ?_ | refine RwOk.cons ?_ ?_ | rfl | exact ze2 rfl (by assumption) | (refine rnV_id' rfl ?_; (first | rfl | (simp [cloV, cloL, clo, zo, zn, zp, zm, zk]; done))) | (refine zd3 ?_; first | rfl | omega | (rw [zr1 (by omega) (by omega)]; omega)) | (refine ze2 rfl ?_; (first | rfl | (simp [cloV, cloL, clo, zo, zn, zp, zm, zk]; done))) | exact zd4 rfl rfl | (refine ze4 (by rfl) (by rfl) ?_ ?_ <;> (first | rfl | (simp [cloV, cloL, clo, zo, zn, zp, zm, zk]; done))) | (refine rw_rn' rfl rfl ?_; simp; done))))
  rintro N ⟨i, dcs, dts⟩ ⟨hN, hi8, hr⟩
  dsimp only at hN hi8 hr ⊢
  clear hR
  repeat' (first | ((apply f_wo); first | ((apply f_mv); first | refine zj1 (v := .c _) ?_ | refine za ?_) | ((apply f_as); first | refine zl1 (v := .c _) ?_ | refine za ?_) | ((apply f_ld); first | refine zm1 ?_ | refine zk2 ?_ | refine n_ld ?_) | ((apply f_st); first | refine n_st ?_ | refine zm2 ?_) | ((apply zt10); first | refine zc5 ?_ | refine za ?_) | ((apply f_bb); first | refine zq2 ?_ | refine zr2 ?_ | refine za ?_) | refine n_al ?_ | refine n_bs ?_ | refine za ?_) | ((apply f_w); first | refine zb1 ?_ | refine zd ?_) | refine zb fun C => ?_ | refine zl ?_ | refine zf ?_ | refine zh ?_ | refine zi ?_)
  refine zc2 (by rfl) (fun hC => ?_) fun hC => ?_
  · have hi0 : 0 < i := by have := of_decide_eq_true hC; omega
    obtain ⟨j, rfl⟩ : ∃ j, i = j + 1 := ⟨i - 1, by omega⟩
    obtain ⟨g1, cs5, t5, ⟨nm, k1, k2, k3, q, b0, w, t, q2, b2', w2, f1, f2, d1, d2, d3, d4, rfl, d5⟩, g5⟩ := hr
    have ccd := zc1 g1
    have ck1 := zc1 f1
    have ck2 := zc1 f2
    have ck3 := zc1 (ze19 g5)
    have hw3 : IntKind.i64.wrap (((j + 1 : Nat) : Int) - 1) = (j : Int) := by rw [IntKind.wrap_i64]; omega
    repeat' (first | ((apply f_wo); first | ((apply f_mv); first | refine zj1 (v := .c _) ?_ | refine za ?_) | ((apply f_as); first | refine zl1 (v := .c _) ?_ | refine za ?_) | ((apply f_ld); first | refine zm1 ?_ | refine zk2 ?_ | refine n_ld ?_) | ((apply f_ca); first | refine zv5 0 [23] (d1) ?_ (hl := zo1 (by rfl) ccd) | refine zj3 0 (d2) ?_ (hl := zo1 (by rfl) ck1) | refine zo4 (d3) ?_ | refine zm4 (d3) ?_ | refine zj3 0 (d4) ?_ (hl := zo1 (by rfl) ck2) | refine zj3 3 (d5) ?_) | ((apply f_st); first | refine n_st ?_ | refine zm2 ?_) | ((apply zt10); first | refine zc5 ?_ | refine za ?_) | ((apply f_bb); first | refine zq2 ?_ | refine zr2 ?_ | refine za ?_) | refine n_al ?_ | refine n_bs ?_ | refine za ?_) | ((apply f_w); first | refine zb1 ?_ | refine zd ?_) | refine zb fun C => ?_ | refine zl ?_ | refine zf ?_ | refine zh ?_ | refine zi ?_ | refine zf1 rfl ?_ | refine zg1 rfl ?_)
    refine ⟨j, (j, k3, _), by omega, ⟨rfl, by omega, g5⟩, ?_⟩
    (refine zv2 _ _ rfl rfl ?_ ?_ <;> (repeat' (first | exact TmOk.nil | exact RwOk.nil | refine TmOk.cons ?_ ?_ | refine RwOk.cons ?_ ?_ | rfl | exact ze2 rfl (by assumption) | (refine rnV_id' rfl ?_; (first | rfl | (simp [cloV, cloL, clo, zo, zn, zp, zm, zk]; done))) | (refine zd3 ?_; first | rfl | omega | (rw [zr1 (by omega) (by omega)]; omega)) | (refine ze2 rfl ?_; (first | rfl | (simp [cloV, cloL, clo, zo, zn, zp, zm, zk]; done))) | exact zd4 rfl rfl | (refine ze4 (by rfl) (by rfl) ?_ ?_ <;> (first | rfl | (simp [cloV, cloL, clo, zo, zn, zp, zm, zk]; done))) | (refine rw_rn' rfl rfl ?_; simp; done))))
  · have hi0 : i = 0 := by have := of_decide_eq_false hC; omega
    subst hi0
    obtain ⟨-, rfl, rfl⟩ := hr
    refine zu2 (za6 100 (i := 3) rfl rfl (pre := []) (post := [_]) rfl) ?_
    refine zu2 (za6 101 (i := 3) rfl rfl (pre := [_]) (post := []) rfl) ?_
    repeat' (first | ((apply f_wo); first | ((apply f_mv); first | refine zj1 (v := .c _) ?_ | refine za ?_) | ((apply f_as); first | refine zl1 (v := .c _) ?_ | refine za ?_) | ((apply f_ld); first | refine zm1 ?_ | refine zk2 ?_ | refine n_ld ?_) | ((apply f_st); first | refine n_st ?_ | refine zm2 ?_) | ((apply zt10); first | refine zc5 ?_ | refine za ?_) | ((apply f_bb); first | refine zq2 ?_ | refine zr2 ?_ | refine za ?_) | refine n_al ?_ | refine n_bs ?_ | refine za ?_) | ((apply f_w); first | refine zb1 ?_ | refine zd ?_) | refine zb fun C => ?_ | refine zl ?_ | refine zf ?_ | refine zh ?_ | refine zi ?_)
    refine zu ?_
    exact ret1 rfl (zs3 (zr3 rfl rfl rfl (zm _) (zr3 rfl rfl rfl (zm _) zt2))) rfl cc' (zh3 h4 hc) ⟨rfl, rfl⟩
end Go.Proofs.Ytghljnfbbaklnaa
