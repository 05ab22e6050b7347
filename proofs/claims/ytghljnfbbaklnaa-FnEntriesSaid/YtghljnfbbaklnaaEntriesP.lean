/- spec.l14Drop, spec.DropEntry, impl.DropEntry: by the abstract machine. -/
import Derived.Shelf.LaysM
import Derived.Shelf.Strconv.Itoa3
import Derived.Test.YtghljnfbbaklnaaEntriesO
namespace Go.Proofs.Ytghljnfbbaklnaa
open Go.RowKit
set_option maxRecDepth 100000
def notNm (s : ByteArray) (e : E) : Bool := !isNm s e
def dropE (e : E) (nm s : ByteArray) : E := .agg [.lst 4 34 none 0 (varsE e), .lst 2 80 none 0 (match (tabsE e).findIdx? (isNm nm) with
  | some k => (tabsE e).set k (.agg [.str (nmE ((tabsE e)[k]?.getD e)), .lst 4 82 none 0 ((tabsE ((tabsE e)[k]?.getD e)).filter (notNm s))]) | none => tabsE e)]
theorem zu13 {x0A x1A : Option Addr} {x0c x1c k k' : Nat} {T T' : TypeId} {l l2 : List E} {nm s : ByteArray} (h : idxF (isNm nm) l2 = -1) : dropE (.agg [.lst k T x0A x0c l, .lst k' T' x1A x1c l2]) nm s = .agg [.lst 4 34 none 0 l, .lst 2 80 none 0 l2] := by
  simp [dropE, varsE, tabsE, zo5 h]
theorem zb9 {x0A x1A zA : Option Addr} {x0c x1c zc k k' kz : Nat} {T T' Tz : TypeId} {l l2 lz : List E} {nm s q : ByteArray} {i : Nat} (h : idxF (isNm nm) l2 = (i : Int)) (hx : l2[i]? = some (.agg [.str q, .lst kz Tz zA zc lz])) :
    dropE (.agg [.lst k T x0A x0c l, .lst k' T' x1A x1c l2]) nm s = .agg [.lst 4 34 none 0 l, .lst 2 80 none 0 (l2.set i (.agg [.str q, .lst 4 82 none 0 (lz.filter (notNm s))]))] := by
  simp [dropE, varsE, tabsE, zp5 h, hx, nmE]
def zV : E := .agg [.int .i64 0, .int .i64 0, .str ByteArray.empty]
theorem zr6 {p : E → Bool} {x : E} : ∀ {l : List E} {k : Nat}, (∀ y, l[k]? = some y → p x = p y) → (l.set k x).findIdx? p = l.findIdx? p
  | [], _, _ => rfl
  | a :: r, 0, h => by simp [List.findIdx?_cons, h a rfl]
  | a :: r, k + 1, h => by
    have ih := zr6 (p := p) (x := x) (l := r) (k := k) fun y hy => h y (by simpa using hy)
    simp [List.findIdx?_cons, ih]
theorem zk8 {p : E → Bool} {x : E} (hx : p x = true) : ∀ {l : List E}, l.findIdx? p = none → (l ++ [x]).findIdx? p = some l.length
  | [], _ => by simp [hx]
  | a :: r, h => by
    rw [List.findIdx?_cons] at h
    rw [List.cons_append, List.findIdx?_cons]
    split at h
    · cases h
    · rename_i ha
      have : r.findIdx? p = none := by simpa using h
      have ha2 : p a = false := by simpa using ha
      simp [zk8 hx this, ha2]
theorem zq11 {p : E → Bool} : ∀ {l : List E} {k : Nat}, l.findIdx? p = some k → ∃ x, l[k]? = some x ∧ p x = true := fun {l k} h => by
  obtain ⟨x, h1, h2⟩ := zj10 (p := p) (l := l) (k := k) (by simp [idxF, h])
  exact ⟨x, h1, h2⟩
def Nms (l : List E) : Prop := ∀ x ∈ l, ∃ (q : ByteArray) (v : E), x = .agg [.str q, v]
def vlL (l : List E) (s : ByteArray) : E := match l.findIdx? (isNm s) with | some k => vlE (l[k]?.getD zV) | none => zV
def hasL (l : List E) (s : ByteArray) : Bool := (l.findIdx? (isNm s)).isSome
theorem zl16 {l : List E} {s q : ByteArray} {v : E} {k : Nat} (h : idxF (isNm s) l = (k : Int)) (hx : l[k]? = some (.agg [.str q, v])) : vlL l s = v ∧ hasL l s = true := by
  simp [vlL, hasL, zp5 h, hx, vlE]
theorem zm16 {l : List E} {s : ByteArray} (h : idxF (isNm s) l = -1) : vlL l s = zV ∧ hasL l s = false := by
  simp [vlL, hasL, zo5 h]
theorem zn16 {l : List E} {t : ByteArray} : hasL l t = l.any (isNm t) := by
  unfold hasL
  rw [List.findIdx?_isSome]
theorem zb18 {l : List E} (hl : Nms l) {s : ByteArray} {v : E} (h : putOkL l s = true) : vlL (putL l s v) s = v ∧ hasL (putL l s v) s = true := by
  unfold putOkL at h
  unfold putL
  cases hk : l.findIdx? (isNm s) with
  | none =>
    rw [hk] at h
    have h20 : ¬ 20 ≤ l.length := by simpa using h
    simp only [if_neg h20]
    have hf := zk8 (p := isNm s) (x := .agg [.str s, v]) (by simp [isNm, nmE]) hk
    unfold vlL hasL
    rw [hf]
    simp [vlE]
  | some k =>
    obtain ⟨x, hx, hp⟩ := zq11 hk
    obtain ⟨q, v0, rfl⟩ := hl x (List.mem_of_getElem? hx)
    have hlt : k < l.length := (List.getElem?_eq_some_iff.1 hx).1
    simp only [hx, Option.getD_some, nmE]
    unfold vlL hasL
    rw [zr6 (p := isNm s) (x := .agg [.str q, v]) (l := l) (k := k) fun y hy => by rw [hx] at hy; injection hy with hy; subst hy; rfl, hk]
    simp [List.getElem?_set_self hlt, vlE]
theorem zo16 {l : List E} (hl : Nms l) {s : ByteArray} {v : E} : (putL l s v).map nmE = l.map nmE ∨ (putL l s v).map nmE = l.map nmE ++ [s] := by
  unfold putL
  cases hk : l.findIdx? (isNm s) with
  | none =>
    simp only
    split
    · exact .inl rfl
    · exact .inr (by simp [nmE])
  | some k =>
    obtain ⟨x, hx, hp⟩ := zq11 hk
    obtain ⟨q, v0, rfl⟩ := hl x (List.mem_of_getElem? hx)
    simp only [hx, Option.getD_some, nmE]
    refine .inl (List.ext_getElem? fun i => ?_)
    rw [List.getElem?_map, List.getElem?_map]
    by_cases e : k = i
    · subst e
      rw [List.getElem?_set_self (List.getElem?_eq_some_iff.1 hx).1, hx]; rfl
    · rw [List.getElem?_set_ne e]
theorem zc18 {l : List E} {s : ByteArray} : hasL (l.filter (notNm s)) s = false := by
  rw [zn16, List.any_filter]
  refine List.any_eq_false.2 fun x _ => ?_
  simp [notNm]
end Go.Proofs.Ytghljnfbbaklnaa
namespace Go.Proofs.Ytghljnfbbaklnaa
open Go.RowKit Go.Shelf
set_option maxRecDepth 100000
def numT (n : Int) : ByteArray := ⟨(Lib.itoa n).toArray⟩
end Go.Proofs.Ytghljnfbbaklnaa
namespace Go.Proofs.Ytghljnfbbaklnaa
open Go.RowKit
set_option maxRecDepth 100000
theorem zd18 (k : Nat) : (-(k : Int)).tdiv 10 = -((k / 10 : Nat) : Int) := by rw [Int.neg_tdiv]; rfl
theorem ze18 (k : Nat) : (-(k : Int)).tmod 10 = -((k % 10 : Nat) : Int) := by rw [Int.neg_tmod]; rfl
theorem zw12 {k : Nat} (h : 0 < k) : numT (-(k : Int)) = ⟨(45 :: Lib.decDigits k).toArray⟩ := by
  unfold numT Lib.itoa
  rw [if_pos (by omega)]
  simp
theorem zt7 (k : Nat) : numT (k : Int) = ⟨(Lib.decDigits k).toArray⟩ := by
  unfold numT Lib.itoa
  rw [if_neg (by omega)]
  simp
theorem zr11 {k : Nat} (h : ¬ k < 10) : Lib.decDigits k = Lib.decDigits (k / 10) ++ [UInt8.ofNat (48 + k % 10)] := by
  rw [Lib.decDigits, dif_neg h]
theorem zc7 {k : Nat} (h : k < 10) : Lib.decDigits k = [UInt8.ofNat (48 + k)] := by
  rw [Lib.decDigits, dif_pos h]
theorem zu9 {n : Int} (h0 : -9223372036854775808 ≤ n) (h1 : n ≤ 9223372036854775807) : (numT n).size ≤ 20 := by
  have key : ∀ (f k : Nat), k < 10 ^ (f + 1) → (Lib.decDigits k).length ≤ f + 1 := by
    intro f
    induction f with
    | zero => intro k hk; rw [zc7 (by simpa using hk)]; simp
    | succ f ih =>
      intro k hk
      by_cases h : k < 10
      · rw [zc7 h]; simp
      · rw [zr11 h, List.length_append]
        have := ih (k / 10) (by rw [Nat.pow_succ] at hk; omega)
        simp only [List.length_cons, List.length_nil]; omega
  unfold numT Lib.itoa
  show (List.toArray _).size ≤ 20
  rw [List.size_toArray]
  split
  · have := key 18 n.natAbs (by omega)
    rw [List.length_cons]; omega
  · have := key 18 n.toNat (by omega)
    omega
theorem u8of {z : Int} {d : Nat} (e : z = ((48 + d : Nat) : Int)) (h : d < 10) : UInt8.ofNat (IntKind.u8.wrap (IntKind.i64.wrap z)).toNat = UInt8.ofNat (48 + d) := by
  subst e
  rw [zs7 (by omega) (by omega), IntKind.wrap_u8]
  have : (((48 + d : Nat) : Int) % 256).toNat = 48 + d := by omega
  rw [this]
theorem zm22 (x : List UInt8) (b : UInt8) : (ByteArray.mk #[45]) ++ ⟨x.toArray⟩ ++ ⟨[b].toArray⟩ = ⟨(45 :: (x ++ [b])).toArray⟩ := by
  rw [show (ByteArray.mk #[45]) = ⟨[45].toArray⟩ from rfl, ByteArray.mk_append_mk, ByteArray.mk_append_mk]; rfl
theorem zp16 (m : Nat) : ∀ n : Int, n.natAbs ≤ m → -9223372036854775808 ≤ n → n ≤ 9223372036854775807 → Ctr Try.prog 83 [.c (.v (.int .i64 n))] [] (.c (.v (.string (numT n)))) [] := by
  induction m using Nat.strongRecOn with
  | _ m ih =>
  intro n hm h0 h1
  rcases Int.lt_or_le n (-9) with h | h
  · obtain ⟨k, rfl⟩ : ∃ k : Nat, n = -(k : Int) := ⟨n.natAbs, by omega⟩
    have hc := ih (k / 10) (by omega) ((k / 10 : Nat) : Int) (by omega) (by omega) (by omega)
    clear ih
    have e1 : IntKind.i64.wrap (0 - IntKind.i64.wrap ((-(k : Int)).tdiv 10)) = ((k / 10 : Nat) : Int) := by
      rw [zd18, zs7 (z := -((k / 10 : Nat) : Int)) (by omega) (by omega), zs7 (by omega) (by omega)]; omega
    have hc' : Ctr Try.prog 83 [.c (.v (.int .i64 (IntKind.i64.wrap (0 - IntKind.i64.wrap ((-(k : Int)).tdiv 10)))))] [] (.c (.v (.string (numT ((k / 10 : Nat) : Int))))) [] := by rw [e1]; exact hc
    clear hc
    refine zt1 Try.func83 rfl rfl ?_
    have hz := zu9 (n := ((k / 10 : Nat) : Int)) (by omega) (by omega)
    repeat' (first | refine zi ?_ | refine ze ?_ | refine zg ?_ | refine zh ?_ | refine za fun C => ?_ | refine zf (by kernel_rfl) (by kernel_rfl) fun C => ?_ | refine zd ?_ | (refine x_gm ?_ ?_ <;> intro hG <;> (try cases hG)) | refine zf1 ?_ | refine zx15 ?_ | refine zy15 ?_ | refine x_bs ?_ | refine x_gr ?_ | refine x_st ?_ | refine x_mv ?_ | refine x_sk ?_ | refine zh1 ?_ | refine x_ix ?_ | refine zi1 ?_ | refine zj1 ?_ | refine zg1 ?_ | refine zg1 (hnu := zj _) ?_ | refine zt ?_ | refine zt (hnu := zj _) ?_ | refine x_ld ?_ | refine zw15 ?_ | refine zp17 ?_ | (refine zn1 (by rfl) ?_ ?_ <;> intro hC <;> (try cases hC)))
    all_goals first
      | (exfalso; clear hc' e1; simp at *; omega)
      | skip
    refine zq ?_
    refine ret0 rfl zj4 ⟨?_, rfl⟩
    refine congrArg (fun s => AV.c (AC.v (Value.string s))) ?_
    rw [u8of (d := k % 10) (by rw [ze18]; omega) (by omega), zt7, zm22, zw12 (by omega), zr11 (k := k) (by omega)]
  · rcases Int.lt_or_le n 0 with h2 | h2
    · obtain ⟨k, rfl⟩ : ∃ k : Nat, n = -(k : Int) := ⟨n.natAbs, by omega⟩
      clear ih
      refine zt1 Try.func83 rfl rfl ?_
      repeat' (first | refine zi ?_ | refine ze ?_ | refine zg ?_ | refine zh ?_ | refine za fun C => ?_ | refine zf (by kernel_rfl) (by kernel_rfl) fun C => ?_ | refine zd ?_ | (refine x_gm ?_ ?_ <;> intro hG <;> (try cases hG)) | refine zf1 ?_ | refine zx15 ?_ | refine zy15 ?_ | refine x_bs ?_ | refine x_gr ?_ | refine x_st ?_ | refine x_mv ?_ | refine x_sk ?_ | refine zh1 ?_ | refine x_ix ?_ | refine zi1 ?_ | refine zj1 ?_ | refine zg1 ?_ | refine zg1 (hnu := zj _) ?_ | refine zt ?_ | refine zt (hnu := zj _) ?_ | refine x_ld ?_ | refine zw15 ?_ | refine zp17 ?_ | (refine zn1 (by rfl) ?_ ?_ <;> intro hC <;> (try cases hC)))
      all_goals first
        | (exfalso; simp at *; omega)
        | skip
      refine zq ?_
      refine ret0 rfl zj4 ⟨?_, rfl⟩
      refine congrArg (fun s => AV.c (AC.v (Value.string s))) ?_
      rw [u8of (d := k) (by omega) (by omega), zw12 (by omega), zc7 (k := k) (by omega)]; rfl
    · obtain ⟨k, rfl⟩ : ∃ k : Nat, n = (k : Int) := ⟨n.natAbs, by omega⟩
      rcases Nat.lt_or_ge k 10 with h3 | h3
      · clear ih
        refine zt1 Try.func83 rfl rfl ?_
        repeat' (first | refine zi ?_ | refine ze ?_ | refine zg ?_ | refine zh ?_ | refine za fun C => ?_ | refine zf (by kernel_rfl) (by kernel_rfl) fun C => ?_ | refine zd ?_ | (refine x_gm ?_ ?_ <;> intro hG <;> (try cases hG)) | refine zf1 ?_ | refine zx15 ?_ | refine zy15 ?_ | refine x_bs ?_ | refine x_gr ?_ | refine x_st ?_ | refine x_mv ?_ | refine x_sk ?_ | refine zh1 ?_ | refine x_ix ?_ | refine zi1 ?_ | refine zj1 ?_ | refine zg1 ?_ | refine zg1 (hnu := zj _) ?_ | refine zt ?_ | refine zt (hnu := zj _) ?_ | refine x_ld ?_ | refine zw15 ?_ | refine zp17 ?_ | (refine zn1 (by rfl) ?_ ?_ <;> intro hC <;> (try cases hC)))
        all_goals first
          | (exfalso; simp at *; omega)
          | skip
        refine zq ?_
        refine ret0 rfl zj4 ⟨?_, rfl⟩
        refine congrArg (fun s => AV.c (AC.v (Value.string s))) ?_
        rw [u8of (d := k) (by omega) (by omega), zt7, zc7 (k := k) (by omega)]
      · have hc := ih (k / 10) (by omega) ((k / 10 : Nat) : Int) (by omega) (by omega) (by omega)
        clear ih
        have e1 : IntKind.i64.wrap ((k : Int).tdiv 10) = ((k / 10 : Nat) : Int) := by
          rw [show ((k : Int).tdiv 10) = ((k / 10 : Nat) : Int) from rfl, zs7 (by omega) (by omega)]
        have hc' : Ctr Try.prog 83 [.c (.v (.int .i64 (IntKind.i64.wrap ((k : Int).tdiv 10))))] [] (.c (.v (.string (numT ((k / 10 : Nat) : Int))))) [] := by rw [e1]; exact hc
        clear hc
        refine zt1 Try.func83 rfl rfl ?_
        have hz := zu9 (n := ((k / 10 : Nat) : Int)) (by omega) (by omega)
        repeat' (first | refine zi ?_ | refine ze ?_ | refine zg ?_ | refine zh ?_ | refine za fun C => ?_ | refine zf (by kernel_rfl) (by kernel_rfl) fun C => ?_ | refine zd ?_ | (refine x_gm ?_ ?_ <;> intro hG <;> (try cases hG)) | refine zf1 ?_ | refine zx15 ?_ | refine zy15 ?_ | refine x_bs ?_ | refine x_gr ?_ | refine x_st ?_ | refine x_mv ?_ | refine x_sk ?_ | refine zh1 ?_ | refine x_ix ?_ | refine zi1 ?_ | refine zj1 ?_ | refine zg1 ?_ | refine zg1 (hnu := zj _) ?_ | refine zt ?_ | refine zt (hnu := zj _) ?_ | refine x_ld ?_ | refine zw15 ?_ | refine zp17 ?_ | (refine zn1 (by rfl) ?_ ?_ <;> intro hC <;> (try cases hC)))
        all_goals first
          | (exfalso; clear hc' e1; simp at *; omega)
          | skip
        refine zq ?_
        refine ret0 rfl zj4 ⟨?_, rfl⟩
        refine congrArg (fun s => AV.c (AC.v (Value.string s))) ?_
        rw [u8of (d := k % 10) (by rw [show ((k : Int).tmod 10) = ((k % 10 : Nat) : Int) from rfl]; omega) (by omega), zt7, zt7, zr11 (k := k) (by omega)]
        exact ByteArray.mk_append_mk _ _
def nmD (q : ByteArray) (a b : Int) (s : ByteArray) : E := .agg [.str q, .agg [.int .i64 a, .int .i64 b, .str s]]
def tbD (q : ByteArray) (A : Option Addr) (c : Nat) (l : List E) : E := .agg [.str q, .lst 4 82 A c l]
def envE (vs ts : List E) : E := .agg [.lst 4 34 none 0 vs, .lst 2 80 none 0 ts]
def NmOk (x : E) : Prop := ∃ (q : ByteArray) (a b : Int) (s : ByteArray), q.size ≤ 201 ∧ VOk a b s ∧ x = nmD q a b s
def TbOk (n : Nat) (x : E) : Prop := ∃ (q : ByteArray) (A : Option Addr) (c : Nat) (l : List E), q.size ≤ 201 ∧ l.length ≤ n ∧ (∀ y ∈ l, NmOk y) ∧ x = tbD q A c l
def EOk (n : Nat) (vs ts : List E) : Prop := vs.length ≤ 3 ∧ ts.length ≤ 3 ∧ (∀ x ∈ vs, NmOk x) ∧ ∀ x ∈ ts, TbOk n x
theorem NmOk.nm {l : List E} (h : ∀ x ∈ l, NmOk x) : Nms l := fun x hx => by
  obtain ⟨q, a, b, s, -, -, rfl⟩ := h x hx
  exact ⟨q, _, rfl⟩
theorem zq16 {q : ByteArray} (h : q.size ≤ 201) : (E.str q).Ty Try.prog 9 := by simp only [E.Ty]; exact ⟨Try.underlying9, by unfold maxLen; omega⟩
theorem NmOk.sz {x : E} (h : NmOk x) : x.sz ≤ 402 ∧ x.enc.length = 4 := by
  obtain ⟨q, a, b, s, h1, h2, rfl⟩ := h
  have := h2.2.2
  exact ⟨by simp only [nmD, E.sz, E.szL]; omega, rfl⟩
theorem NmOk.named {x : E} (h : NmOk x) : x.Ty Try.prog 34 := by
  obtain ⟨q, a, b, s, h1, h2, rfl⟩ := h
  exact E.Ty.mk_agg Try.underlying34 (E.TyF.mk_cons (zq16 h1) (E.TyF.mk_cons h2.ty E.TyF.mk_nil))
theorem NmOk.entry {x : E} (h : NmOk x) : x.Ty Try.prog 82 := by
  obtain ⟨q, a, b, s, h1, h2, rfl⟩ := h
  exact E.Ty.mk_agg Try.underlying82 (E.TyF.mk_cons (zq16 h1) (E.TyF.mk_cons h2.ty E.TyF.mk_nil))
theorem TbOk.ty {n : Nat} {x : E} (h : TbOk n x) : x.Ty Try.prog 80 ∧ x.enc.length = 2 ∧ x.sz ≤ 201 + n * 403 := by
  obtain ⟨q, A, c, l, h1, h2, h3, rfl⟩ := h
  refine ⟨E.Ty.mk_agg Try.underlying80 (E.TyF.mk_cons (zq16 h1) (E.TyF.mk_cons (E.Ty.mk_lst Try.underlying78 (by kernel_rfl) (fun y hy => (h3 y hy).entry) (fun y hy => (h3 y hy).sz.2)) E.TyF.mk_nil)), rfl, ?_⟩
  have := zt12 fun y hy => (h3 y hy).sz.1
  have : l.length * 402 ≤ n * 402 := Nat.mul_le_mul_right _ h2
  simp only [tbD, E.sz, E.szL]; omega
theorem EOk.ty {n : Nat} {vs ts : List E} (h : EOk n vs ts) : (envE vs ts).Ty Try.prog 27 :=
  E.Ty.mk_agg Try.underlying27 (E.TyF.mk_cons (E.Ty.mk_lst Try.underlying24 (by kernel_rfl) (fun y hy => (h.2.2.1 y hy).named) (fun y hy => (h.2.2.1 y hy).sz.2)) (E.TyF.mk_cons (E.Ty.mk_lst Try.underlying25 (by kernel_rfl) (fun y hy => (h.2.2.2 y hy).ty.1) (fun y hy => (h.2.2.2 y hy).ty.2.1)) E.TyF.mk_nil))
theorem EOk.sz {n : Nat} {vs ts : List E} (h : EOk n vs ts) (hn : n ≤ 100) : (envE vs ts).sz ≤ 1048576 := by
  have h1 := zt12 fun y hy => (h.2.2.1 y hy).sz.1
  have h2 := zt12 fun y hy => (h.2.2.2 y hy).ty.2.2
  have h3 := h.1
  have h4 := h.2.1
  have h5 : n * 403 ≤ 100 * 403 := Nat.mul_le_mul_right _ hn
  have h6 : ts.length * (201 + n * 403) ≤ 3 * (201 + 100 * 403) := Nat.mul_le_mul h4 (by omega)
  simp only [envE, E.sz, E.szL]; omega
theorem TbOk.mono {n m : Nat} {x : E} (h : TbOk n x) (hm : n ≤ m) : TbOk m x := by
  obtain ⟨q, A, c, l, h1, h2, h3, rfl⟩ := h
  exact ⟨q, A, c, l, h1, by omega, h3, rfl⟩
theorem EOk.mono {n m : Nat} {vs ts : List E} (h : EOk n vs ts) (hm : n ≤ m) : EOk m vs ts := ⟨h.1, h.2.1, h.2.2.1, fun x hx => (h.2.2.2 x hx).mono hm⟩
theorem zr16 {n : Nat} {l : List E} (h : ∀ y ∈ l, NmOk y) (hn : l.length ≤ n) {s : ByteArray} (hs : s.size ≤ 201) {a b : Int} {t : ByteArray} (hv : VOk a b t) : (∀ y ∈ putL l s (.agg [.int .i64 a, .int .i64 b, .str t]), NmOk y) ∧ (putL l s (.agg [.int .i64 a, .int .i64 b, .str t])).length ≤ n + 1 := by
  unfold putL
  split
  · rename_i i hi
    refine ⟨fun y hy => ?_, by rw [List.length_set]; omega⟩
    rcases List.mem_or_eq_of_mem_set hy with h1 | rfl
    · exact h y h1
    · obtain ⟨x, hx, -⟩ := zq11 hi
      obtain ⟨q, a0, b0, s0, g1, -, rfl⟩ := h x (List.mem_of_getElem? hx)
      simp only [hx, Option.getD_some]
      exact ⟨q, a, b, t, g1, hv, rfl⟩
  · split
    · exact ⟨h, by omega⟩
    · refine ⟨fun y hy => ?_, by simp; omega⟩
      rcases List.mem_append.1 hy with h1 | h1
      · exact h y h1
      · rw [List.mem_singleton] at h1; subst h1; exact ⟨s, a, b, t, hs, hv, rfl⟩
theorem EOk.put {n : Nat} {vs ts : List E} (h : EOk n vs ts) (nm : ByteArray) {s : ByteArray} (hs : s.size ≤ 201) {a b : Int} {t : ByteArray} (hv : VOk a b t) : ∃ ts', putE (envE vs ts) nm s (.agg [.int .i64 a, .int .i64 b, .str t]) = envE vs ts' ∧ EOk (n + 1) vs ts' ∧ ts'.length = ts.length := by
  rcases zu3 (isNm nm) ts with h0 | ⟨k, h0, hlt⟩
  · exact ⟨ts, (zi6 h0).1, h.mono (by omega), rfl⟩
  · obtain ⟨x, hx⟩ : ∃ x, ts[k]? = some x := ⟨_, List.getElem?_eq_getElem hlt⟩
    obtain ⟨q, A, c, l, h1, h2, h3, rfl⟩ := h.2.2.2 x (List.mem_of_getElem? hx)
    refine ⟨_, (zj6 h0 hx).1, ⟨h.1, by rw [List.length_set]; exact h.2.1, h.2.2.1, fun y hy => ?_⟩, by rw [List.length_set]⟩
    rcases List.mem_or_eq_of_mem_set hy with h4 | rfl
    · exact (h.2.2.2 y h4).mono (by omega)
    · obtain ⟨g1, g2⟩ := zr16 h3 h2 hs hv
      exact ⟨q, none, 0, _, h1, g2, g1, rfl⟩
theorem zk7 {a b : Int} {s : ByteArray} (hv : VOk a b s) : ∃ t : ByteArray, t.size ≤ 201 ∧ Ctr Try.prog 95 [.ag [.v (.int .i64 a), .v (.int .i64 b), .v (.string s)]] [] (.c (.v (.string t))) [] := by
  have hc := zp16 _ b (Nat.le_refl _) hv.2.1.1 hv.2.1.2
  by_cases h : a = 1
  · subst h
    refine ⟨numT b, by have := zu9 hv.2.1.1 hv.2.1.2; omega, zt1 Try.func95 rfl rfl ?_⟩
    repeat' (first | ((apply f_wo); first | ((apply f_as); first | refine zo1 (v := .c _) ?_ | refine zb ?_) | ((apply f_fa); first | refine n_fa ?_ | refine zr2 ?_) | ((apply f_ld); first | refine zi4 ?_ | refine zw2 ?_ | refine n_ld ?_) | ((apply f_ca); first | refine zc4 (hc) ?_ | refine zy3 (hc) ?_) | ((apply zl3); first | refine zl1 ?_ | refine zb ?_) | refine n_bo ?_ | refine zb ?_) | ((apply f_w); first | refine zy ?_ | refine zd ?_) | refine za fun C => ?_ | refine zi ?_ | refine ze ?_ | refine zg ?_ | refine zh ?_ | refine zp1 rfl ?_ | refine zq1 rfl ?_)
    refine zq ?_; refine ret0 rfl zj4 ⟨?_, rfl⟩
    rfl
  · refine ⟨s, hv.2.2, zt1 Try.func95 rfl rfl ?_⟩
    repeat' (first | ((apply f_wo); first | ((apply f_as); first | refine zo1 (v := .c _) ?_ | refine zb ?_) | ((apply f_fa); first | refine n_fa ?_ | refine zr2 ?_) | ((apply f_ld); first | refine zi4 ?_ | refine zw2 ?_ | refine n_ld ?_) | ((apply zl3); first | refine zl1 ?_ | refine zb ?_) | refine n_bo ?_ | refine zb ?_) | ((apply f_w); first | refine zy ?_ | refine zd ?_) | refine za fun C => ?_ | refine zi ?_ | refine ze ?_ | refine zg ?_ | refine zh ?_)
    refine zu1 (by rfl) (fun hC => absurd (eq_of_beq hC) h) fun hC => ?_
    repeat' (first | ((apply f_wo); first | ((apply f_as); first | refine zo1 (v := .c _) ?_ | refine zb ?_) | ((apply f_fa); first | refine n_fa ?_ | refine zr2 ?_) | ((apply f_ld); first | refine zi4 ?_ | refine zw2 ?_ | refine n_ld ?_) | ((apply zl3); first | refine zl1 ?_ | refine zb ?_) | refine n_bo ?_ | refine zb ?_) | ((apply f_w); first | refine zy ?_ | refine zd ?_) | refine za fun C => ?_ | refine zi ?_ | refine ze ?_ | refine zg ?_ | refine zh ?_)
    refine zq ?_; refine ret0 rfl zj4 ⟨?_, rfl⟩
    rfl
end Go.Proofs.Ytghljnfbbaklnaa
-- MVP
namespace Go.Proofs.Ytghljnfbbaklnaa
open Go.RowKit
set_option maxRecDepth 100000
def StepE (cs : List AC) (vs ts : List E) (cs' : List AC) (ts' : List E) : Prop := ∃ (nm : ByteArray) (cs1 cs2 cs3 : List AC) (a b : Int) (s t : ByteArray) (a2 b2 : Int) (s2 : ByteArray), Curs cs1 ∧ Curs cs2 ∧
  Ctr Try.prog 38 [.c (.pt 0 0), .c (.ro (strL [⟨#[116]⟩, ⟨#[117]⟩]).length 1 (acL (strL [⟨#[116]⟩, ⟨#[117]⟩])))] [cs] (.c (.v (.string nm))) [cs1] ∧
  Ctr Try.prog 84 [.c (.pt 0 0)] [cs1] (.ag [.v (.int .i64 a), .v (.int .i64 b), .v (.string s)]) [cs2] ∧
  Ctr Try.prog 95 [.ag [.v (.int .i64 a), .v (.int .i64 b), .v (.string s)]] [] (.c (.v (.string t))) [] ∧
  Ctr Try.prog 84 [.c (.pt 0 0)] [cs2] (.ag [.v (.int .i64 a2), .v (.int .i64 b2), .v (.string s2)]) [cs'] ∧ cs3 = cs' ∧
  Ctr Try.prog 59 [.c (.pt 0 0), .c (.v (.string nm)), .c (.v (.string t)), .ag [.v (.int .i64 a2), .v (.int .i64 b2), .v (.string s2)]] [owE (envE vs ts)] (.c (.v (.bool (putOk (envE vs ts) nm t)))) [owE (envE vs ts')]
def RE (vs : List E) : Nat → List AC → List E → List AC → List E → Prop
  | 0, cs, ts, cs', ts' => Curs cs ∧ cs' = cs ∧ ts' = ts
  | n + 1, cs, ts, cs', ts' => Curs cs ∧ ∃ cs1 t1, StepE cs vs ts cs1 t1 ∧ RE vs n cs1 t1 cs' ts'
theorem zm20 {vs : List E} {n : Nat} {cs cs' : List AC} {l l' : List E} (h : RE vs n cs l cs' l') : Curs cs := by
  cases n <;> exact h.1
theorem zr21 (vs : List E) : ∀ (n m : Nat) (cs : List AC) (ts : List E), Curs cs → EOk m vs ts → m + n ≤ 8 → ∃ cs' ts', Curs cs' ∧ EOk 8 vs ts' ∧ ts'.length = ts.length ∧ RE vs n cs ts cs' ts'
  | 0, m, cs, ts, hc, hl, hm => ⟨cs, ts, hc, hl.mono (by omega), rfl, hc, rfl, rfl⟩
  | n + 1, m, cs, ts, hc, hl, hm => by
    obtain ⟨nm, cs1, h1, hnm, c1⟩ := zg7 hc [⟨#[116]⟩, ⟨#[117]⟩] (by decide)
    obtain ⟨a, b, s, cs2, h2, hv, c2⟩ := zm6 h1
    obtain ⟨t, ht, c3⟩ := zk7 hv
    obtain ⟨a2, b2, s2, cs3, h3, hv2, c4⟩ := zm6 h2
    obtain ⟨ts1, e1, h4, el⟩ := hl.put nm ht hv2
    have c5 := zt9 hl.ty hv2.ty nm t (hl.sz (by omega))
    rw [e1] at c5
    obtain ⟨cs', ts', h5, h6, el2, h7⟩ := zr21 vs n (m + 1) cs3 ts1 h3 h4 (by omega)
    exact ⟨cs', ts', h5, h6, el2.trans el, hc, cs3, ts1, ⟨nm, cs1, cs2, cs3, a, b, s, t, a2, b2, s2, h1, h2, c1, c2, c3, c4, rfl, c5⟩, h7⟩
theorem zs16 {cs : List AC} (hc : Curs cs) : ∃ (vs ts : List E) (cs' : List AC), Curs cs' ∧ EOk 8 vs ts ∧ vs.length = 2 ∧ ts.length = 2 ∧ Ctr Try.prog 81 [.c (.pt 0 0)] [cs] (.ag (owE (envE vs ts))) [cs'] := by
  have cc := za1 hc
  obtain ⟨a, b, s, cs1, h1, hv, c1⟩ := zm6 hc
  have cc1 := za1 h1
  obtain ⟨a2, b2, s2, cs2, h2, hv2, c2⟩ := zm6 h1
  have cc2 := za1 h2
  obtain ⟨n, cs3, h3, hn, c3⟩ := zt4 h2 6 (by decide)
  have cc3 := za1 h3
  have h0 : EOk 0 [nmD ⟨#[120]⟩ a b s, nmD ⟨#[121]⟩ a2 b2 s2] [tbD ⟨#[116]⟩ none 0 [], tbD ⟨#[117]⟩ none 0 []] := by
    refine ⟨by simp, by simp, fun x hx => ?_, fun x hx => ?_⟩
    · simp only [List.mem_cons, List.not_mem_nil, or_false] at hx
      rcases hx with rfl | rfl
      · exact ⟨_, _, _, _, by decide, hv, rfl⟩
      · exact ⟨_, _, _, _, by decide, hv2, rfl⟩
    · simp only [List.mem_cons, List.not_mem_nil, or_false] at hx
      rcases hx with rfl | rfl
      · exact ⟨_, none, 0, [], by decide, by decide, (fun y hy => by cases hy), rfl⟩
      · exact ⟨_, none, 0, [], by decide, by decide, (fun y hy => by cases hy), rfl⟩
  obtain ⟨cs', ts', h4, h5, el, hR⟩ := zr21 _ n 0 cs3 _ h3 h0 (by omega)
  have cc' := za1 h4
  have hne : ts'.length = 2 := el
  refine ⟨_, ts', cs', h4, h5, rfl, hne, zt1 Try.func81 rfl rfl ?_⟩
  refine zi ?_
  refine za fun C => ?_
  repeat' (first | ((apply f_wo); first | ((apply f_mv); first | refine zm1 (v := .c _) ?_ | refine zb ?_) | ((apply f_as); first | refine zo1 (v := .c _) ?_ | refine zb ?_) | ((apply f_ld); first | refine zs1 ?_ | refine zm2 ?_ | refine n_ld ?_) | ((apply f_st); first | refine n_st ?_ | refine zo2 ?_) | ((apply zm11); first | refine zg5 ?_ | refine zb ?_) | ((apply f_bb); first | refine zu2 ?_ | refine zv2 ?_ | refine zb ?_) | refine n_al ?_ | refine n_bs ?_ | refine zb ?_) | ((apply f_w); first | refine zy ?_ | refine zd ?_))
  refine zi ?_
  refine za fun C => ?_
  repeat' (first | ((apply f_wo); first | ((apply f_mv); first | refine zm1 (v := .c _) ?_ | refine zb ?_) | ((apply f_as); first | refine zo1 (v := .c _) ?_ | refine zb ?_) | ((apply f_ld); first | refine zs1 ?_ | refine zm2 ?_ | refine n_ld ?_) | ((apply f_ca); first | refine zg3 0 (c1) ?_ (hl := zw1 (by rfl) cc) | refine zg3 0 (c2) ?_ (hl := zw1 (by rfl) cc1)) | ((apply f_st); first | refine n_st ?_ | refine zo2 ?_) | ((apply zm11); first | refine zg5 ?_ | refine zb ?_) | ((apply f_bb); first | refine zu2 ?_ | refine zv2 ?_ | refine zb ?_) | refine n_al ?_ | refine n_bs ?_ | refine zb ?_) | ((apply f_w); first | refine zy ?_ | refine zd ?_))
  refine za2 (zm9 (i := 14) rfl (CLe.cons _ (CLe.nil 82 4 (CLe.cons _ (CLe.nil 82 4 (CLe.refl [])))))) ?_
  refine za2 (ze5 (i := 3) (j := 11) rfl rfl rfl (pre := []) (post := [_]) rfl) ?_
  refine za2 (ze5 (i := 3) (j := 14) rfl rfl rfl (pre := [_]) (post := []) rfl) ?_
  repeat' (first | ((apply f_wo); first | ((apply f_mv); first | refine zm1 (v := .c _) ?_ | refine zb ?_) | ((apply f_as); first | refine zo1 (v := .c _) ?_ | refine zb ?_) | ((apply f_ld); first | refine zs1 ?_ | refine zm2 ?_ | refine n_ld ?_) | ((apply f_ca); first | refine zg3 0 (c3) ?_ (hl := zw1 (by rfl) cc2)) | ((apply f_st); first | refine n_st ?_ | refine zo2 ?_) | ((apply zm11); first | refine zg5 ?_ | refine zb ?_) | ((apply f_bb); first | refine zu2 ?_ | refine zv2 ?_ | refine zb ?_) | refine n_al ?_ | refine n_bs ?_ | refine zb ?_) | ((apply f_w); first | refine zy ?_ | refine zd ?_) | refine za fun C => ?_ | refine zi ?_ | refine ze ?_ | refine zg ?_ | refine zh ?_)
  refine zp3 (fun d : Nat × List AC × List E => ⟨tmsF [(0, .c (.pt 0 0)), (2, .c (.pt 2 0)), (3, .c (.pt 3 0)), (4, .c (.v (.int .i64 (d.1 : Int))))], hpsF [(0, 0, ⟨0, 0, 0, true, d.2.1⟩), (2, 2, ⟨27, 0, 0, true, [.v (.slice none 0 0), .v (.slice none 0 0)]⟩), (3, 3, ⟨27, 0, 0, true, owE (envE [nmD ⟨#[120]⟩ a b s, nmD ⟨#[121]⟩ a2 b2 s2] d.2.2)⟩)], 1, [0, 2, 3], 32⟩)
    (fun N d => N = d.1 ∧ d.1 ≤ 8 ∧ RE [nmD ⟨#[120]⟩ a b s, nmD ⟨#[121]⟩ a2 b2 s2] d.1 d.2.1 d.2.2 cs' ts') n (n, cs3, [tbD ⟨#[116]⟩ none 0 [], tbD ⟨#[117]⟩ none 0 []]) ⟨rfl, by omega, hR⟩ ?_ ?_
  · (refine zx2 _ _ rfl rfl ?_ ?_ <;> (repeat' (first | exact TmOk.nil | exact RwOk.nil | refine TmOk.cons ?_ ?_ | refine RwOk.cons ?_ ?_ | rfl | exact zb2 rfl (by assumption) | (refine rnV_id' rfl ?_; (first | rfl | (simp [cloV, cloL, clo, zo, zn, zp, zl, zk]; done))) | (refine zf3 ?_; first | rfl | omega | (rw [zx1 (by omega) (by omega)]; omega)) | (refine zb2 rfl ?_; (first | rfl | (simp [cloV, cloL, clo, zo, zn, zp, zl, zk]; done))) | exact zl4 rfl rfl | (refine ze4 (by rfl) (by rfl) ?_ ?_ <;> (first | rfl | (simp [cloV, cloL, clo, zo, zn, zp, zl, zk]; done))) | (refine rw_rn' rfl rfl ?_; simp; done))))
  rintro N ⟨i, dcs, dts⟩ ⟨hN, hi8, hr⟩
  dsimp only at hN hi8 hr ⊢
  clear hR
  repeat' (first | ((apply f_wo); first | ((apply f_mv); first | refine zm1 (v := .c _) ?_ | refine zb ?_) | ((apply f_as); first | refine zo1 (v := .c _) ?_ | refine zb ?_) | ((apply f_ld); first | refine zs1 ?_ | refine zm2 ?_ | refine n_ld ?_) | ((apply f_st); first | refine n_st ?_ | refine zo2 ?_) | ((apply zm11); first | refine zg5 ?_ | refine zb ?_) | ((apply f_bb); first | refine zu2 ?_ | refine zv2 ?_ | refine zb ?_) | refine n_al ?_ | refine n_bs ?_ | refine zb ?_) | ((apply f_w); first | refine zy ?_ | refine zd ?_) | refine za fun C => ?_ | refine zi ?_ | refine ze ?_ | refine zg ?_ | refine zh ?_)
  refine zu1 (by rfl) (fun hC => ?_) fun hC => ?_
  · have hi0 : 0 < i := by have := of_decide_eq_true hC; omega
    obtain ⟨j, rfl⟩ : ∃ j, i = j + 1 := ⟨i - 1, by omega⟩
    obtain ⟨g1, cs5, t5, ⟨nm, k1, k2, k3, q, b0, w, t, q2, b2', w2, f1, f2, d1, d2, d3, d4, rfl, d5⟩, g5⟩ := hr
    have ccd := za1 g1
    have ck1 := za1 f1
    have ck2 := za1 f2
    have ck3 := za1 (zm20 g5)
    have hw3 : IntKind.i64.wrap (((j + 1 : Nat) : Int) - 1) = (j : Int) := by rw [IntKind.wrap_i64]; omega
    repeat' (first | ((apply f_wo); first | ((apply f_mv); first | refine zm1 (v := .c _) ?_ | refine zb ?_) | ((apply f_as); first | refine zo1 (v := .c _) ?_ | refine zb ?_) | ((apply f_ld); first | refine zs1 ?_ | refine zm2 ?_ | refine n_ld ?_) | ((apply f_ca); first | refine zg6 0 [23] (d1) ?_ (hl := zw1 (by rfl) ccd) | refine zg3 0 (d2) ?_ (hl := zw1 (by rfl) ck1) | refine zc4 (d3) ?_ | refine zy3 (d3) ?_ | refine zg3 0 (d4) ?_ (hl := zw1 (by rfl) ck2) | refine zg3 3 (d5) ?_) | ((apply f_st); first | refine n_st ?_ | refine zo2 ?_) | ((apply zm11); first | refine zg5 ?_ | refine zb ?_) | ((apply f_bb); first | refine zu2 ?_ | refine zv2 ?_ | refine zb ?_) | refine n_al ?_ | refine n_bs ?_ | refine zb ?_) | ((apply f_w); first | refine zy ?_ | refine zd ?_) | refine za fun C => ?_ | refine zi ?_ | refine ze ?_ | refine zg ?_ | refine zh ?_ | refine zp1 rfl ?_ | refine zq1 rfl ?_)
    refine ⟨j, (j, k3, _), by omega, ⟨rfl, by omega, g5⟩, ?_⟩
    (refine zx2 _ _ rfl rfl ?_ ?_ <;> (repeat' (first | exact TmOk.nil | exact RwOk.nil | refine TmOk.cons ?_ ?_ | refine RwOk.cons ?_ ?_ | rfl | exact zb2 rfl (by assumption) | (refine rnV_id' rfl ?_; (first | rfl | (simp [cloV, cloL, clo, zo, zn, zp, zl, zk]; done))) | (refine zf3 ?_; first | rfl | omega | (rw [zx1 (by omega) (by omega)]; omega)) | (refine zb2 rfl ?_; (first | rfl | (simp [cloV, cloL, clo, zo, zn, zp, zl, zk]; done))) | exact zl4 rfl rfl | (refine ze4 (by rfl) (by rfl) ?_ ?_ <;> (first | rfl | (simp [cloV, cloL, clo, zo, zn, zp, zl, zk]; done))) | (refine rw_rn' rfl rfl ?_; simp; done))))
  · have hi0 : i = 0 := by have := of_decide_eq_false hC; omega
    subst hi0
    obtain ⟨-, rfl, rfl⟩ := hr
    refine za2 (zf5 100 (i := 3) rfl rfl (pre := []) (post := [_]) rfl) ?_
    refine za2 (zf5 101 (i := 3) rfl rfl (pre := [_]) (post := []) rfl) ?_
    repeat' (first | ((apply f_wo); first | ((apply f_mv); first | refine zm1 (v := .c _) ?_ | refine zb ?_) | ((apply f_as); first | refine zo1 (v := .c _) ?_ | refine zb ?_) | ((apply f_ld); first | refine zs1 ?_ | refine zm2 ?_ | refine n_ld ?_) | ((apply f_st); first | refine n_st ?_ | refine zo2 ?_) | ((apply zm11); first | refine zg5 ?_ | refine zb ?_) | ((apply f_bb); first | refine zu2 ?_ | refine zv2 ?_ | refine zb ?_) | refine n_al ?_ | refine n_bs ?_ | refine zb ?_) | ((apply f_w); first | refine zy ?_ | refine zd ?_) | refine za fun C => ?_ | refine zi ?_ | refine ze ?_ | refine zg ?_ | refine zh ?_)
    refine zq ?_
    exact ret1 rfl (zr3 (ze3 rfl rfl rfl (zl _) (ze3 rfl rfl rfl (zl _) zl2))) rfl cc' (zy2 h4 hc) ⟨rfl, rfl⟩
end Go.Proofs.Ytghljnfbbaklnaa
