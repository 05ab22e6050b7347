/- strconv.Atoi at digits, as contracts of the machine (a value, or an error that is not nil); numbers and their texts. -/
import Derived.Shelf.Strings.Prefix
import Derived.Stop.IfaceNil
import Derived.Test.YtnlgmojciplnoaaDoorFlxPP
namespace Go.Proofs.YtnlgmojciplnoaaDoor
open Go.RowKit
set_option maxRecDepth 100000
theorem zc17 : ∀ (l : List UInt8) (acc : Nat), acc ≤ valA acc l
  | [], acc => Nat.le_refl _
  | c :: r, acc => by
    have := zc17 r (acc * 10 + (c.toNat - 48))
    unfold valA
    omega
def digL (l : List UInt8) : Prop := ∀ c ∈ l, 48 ≤ c.toNat ∧ c.toNat ≤ 57
theorem zk11 : ∀ (l : List UInt8) (acc : Nat), digL l → acc < 18446744073709551616 → Lib.parseUint10 acc l = if valA acc l < 18446744073709551616 then .ok (valA acc l) else .range
  | [], acc, _, h => by
    unfold Lib.parseUint10 valA
    rw [if_pos h]
  | c :: r, acc, hd, h => by
    have h1 := hd c List.mem_cons_self
    have h2 : digL r := fun x hx => hd x (List.mem_cons_of_mem _ hx)
    have h3 := zc17 r (acc * 10 + (c.toNat - 48))
    unfold Lib.parseUint10 valA
    rw [if_pos h1]
    by_cases h4 : 1844674407370955162 ≤ acc
    · rw [if_pos h4, if_neg (by omega)]
    · rw [if_neg h4]
      by_cases h5 : 18446744073709551616 ≤ acc * 10 + (c.toNat - 48)
      · rw [if_pos h5, if_neg (by omega)]
      · rw [if_neg h5]
        exact zk11 r _ h2 (by omega)
theorem zt13 {l : List UInt8} (hne : l ≠ []) (hd : digL l) : Lib.atoiAll l = if valA 0 l < 9223372036854775808 then .ok (valA 0 l : Int) else .range := by
  cases l with
  | nil => exact absurd rfl hne
  | cons c r =>
    have h1 := hd c List.mem_cons_self
    unfold Lib.atoiAll
    dsimp only
    rw [if_neg (show ¬ (c.toNat = 43 ∨ c.toNat = 45) by omega)]
    unfold Lib.parseMag
    rw [if_neg (by simp), zk11 _ 0 hd (by omega)]
    generalize valA 0 (c :: r) = v
    by_cases h2 : v < 18446744073709551616
    · rw [if_pos h2]
      dsimp only
      by_cases h3 : v < 9223372036854775808
      · rw [if_neg (by omega), if_neg (by omega), if_pos h3, if_neg (by omega)]
      · rw [if_pos (by omega), if_neg h3]
    · rw [if_neg h2, if_neg (by omega)]
theorem zd17 : ∀ (n : Nat) (l : List UInt8), l.length ≤ n → l ≠ [] → digL l → (l.length = 1 ∨ ∀ c r, l = c :: r → c.toNat ≠ 48) → Lib.decDigits (valA 0 l) = l ∧ (l.length ≠ 1 → 10 ≤ valA 0 l) ∧ ((∀ c r, l = c :: r → c.toNat ≠ 48) → 1 ≤ valA 0 l)
  | 0, l, h, hne, _, _ => absurd (List.eq_nil_of_length_eq_zero (by omega)) hne
  | n + 1, l, h, hne, hd, hz => by
    obtain ⟨m, x, rfl⟩ : ∃ m x, l = m ++ [x] := ⟨l.dropLast, l.getLast hne, (List.dropLast_concat_getLast hne).symm⟩
    have hx := hd x (by simp)
    have hv : valA 0 (m ++ [x]) = valA 0 m * 10 + (x.toNat - 48) := by rw [zg8, zg10]
    have hx2 : UInt8.ofNat (48 + (x.toNat - 48)) = x := by rw [show 48 + (x.toNat - 48) = x.toNat by omega, UInt8.ofNat_toNat]
    rw [hv]
    cases m with
    | nil =>
      have e : valA 0 ([] : List UInt8) = 0 := rfl
      rw [e]
      refine ⟨by rw [zp4 (by omega), Nat.zero_mul, Nat.zero_add, hx2]; rfl, fun h => absurd rfl h, fun h => ?_⟩
      have := h x [] rfl
      omega
    | cons c r =>
      have hz2 : c.toNat ≠ 48 := by
        rcases hz with h | h
        · simp at h
        · exact h c (r ++ [x]) rfl
      obtain ⟨e1, e2, e3⟩ := zd17 n (c :: r) (by simp at h ⊢; omega) (by simp) (fun y hy => hd y (List.mem_append_left _ hy)) (.inr fun c' r' e => by injection e with e _; rw [← e]; exact hz2)
      have e4 := e3 fun c' r' e => by injection e with e _; rw [← e]; exact hz2
      refine ⟨?_, fun _ => by omega, fun _ => by omega⟩
      rw [zq6 (by omega), show (valA 0 (c :: r) * 10 + (x.toNat - 48)) / 10 = valA 0 (c :: r) by omega, show (valA 0 (c :: r) * 10 + (x.toNat - 48)) % 10 = x.toNat - 48 by omega, hx2, e1]
theorem zl20 : ∀ (n k : Nat), k ≤ n → Lib.decDigits k ≠ []
  | n, k, _ => by
    by_cases h : k < 10
    · rw [zp4 h]; simp
    · rw [zq6 h]; simp
theorem zu13 : ∀ (n k : Nat) (r : List UInt8), k ≤ n → Lib.decDigits k = 48 :: r → r = [] ∧ k = 0
  | n, k, r, hk, h => by
    by_cases h1 : k < 10
    · rw [zp4 h1] at h
      injection h with h2 h3
      have h4 := congrArg UInt8.toNat h2
      rw [UInt8.toNat_ofNat'] at h4
      have h5 : (48 : UInt8).toNat = 48 := rfl
      exact ⟨h3.symm, by omega⟩
    · cases n with
      | zero => omega
      | succ n =>
        rw [zq6 h1] at h
        cases hd : Lib.decDigits (k / 10) with
        | nil => exact absurd hd (zl20 _ _ (Nat.le_refl _))
        | cons y t =>
          rw [hd] at h
          injection h with h2 h3
          subst h2
          have := (zu13 n (k / 10) t (by omega) hd).2
          omega
theorem zm12 : ∀ (n k : Nat), k < 10 ^ (n + 1) → (Lib.decDigits k).length ≤ n + 1
  | 0, k, h => by rw [zp4 (by omega)]; simp
  | n + 1, k, h => by
    by_cases h1 : k < 10
    · rw [zp4 h1]; simp
    · rw [zq6 h1, List.length_append, List.length_singleton]
      have := zm12 n (k / 10) (by rw [Nat.pow_succ] at h; omega)
      omega
theorem zn12 {s : ByteArray} (hd : allB digB s = true) : digL s.data.toList := fun c hc => by
  obtain ⟨j, hj, rfl⟩ := List.getElem_of_mem hc
  have hj2 : j < s.size := by rw [Array.length_toList] at hj; exact hj
  have h1 : digB (bAt s j) = true := by simp only [allB, decide_eq_true_iff] at hd; exact hd j hj2
  have h2 := zh8 hj2
  rw [List.getElem?_eq_getElem hj] at h2
  injection h2 with h2
  rw [h2, UInt8.toNat_ofNat', Nat.mod_eq_of_lt (ze4 s j)]
  simpa [digB] using h1
theorem zm20 {s : ByteArray} (hd : allB digB s = true) (h1 : 1 ≤ s.size) : (valS s ≤ 2147483647 ∧ numT (valS s : Int) = s) ↔ tokOk 1 (intV s) ByteArray.empty = true := by
  have hne : s.data.toList ≠ [] := fun h => by have := congrArg List.length h; rw [Array.length_toList] at this; have : s.size = 0 := this; omega
  have hdL := zn12 hd
  have hlen : s.data.toList.length = s.size := Array.length_toList
  have hh : s.data.toList[0]? = some (UInt8.ofNat (bAt s 0)) := zh8 (by omega)
  have hmod : (UInt8.ofNat (bAt s 0)).toNat = bAt s 0 := by rw [UInt8.toNat_ofNat', Nat.mod_eq_of_lt (ze4 s 0)]
  have hnum : numT (valS s : Int) = s ↔ Lib.decDigits (valS s) = s.data.toList := by
    rw [zj6]
    constructor
    · intro h
      have := congrArg (fun x : ByteArray => x.data.toList) h
      simpa using this
    · intro h
      rw [h]
  rw [hnum]
  have htk : tokOk 1 (intV s) ByteArray.empty = true ↔ 0 ≤ intV s ∧ intV s ≤ 2147483647 := by
    unfold tokOk
    rw [if_pos rfl]
    simp
  rw [htk]
  have hhead : ∀ c r, s.data.toList = c :: r → c.toNat = bAt s 0 := fun c r e => by
    rw [e] at hh
    have : c = UInt8.ofNat (bAt s 0) := by simpa using hh
    rw [this, hmod]
  constructor
  · rintro ⟨a1, a2⟩
    have b1 : s.size ≤ 10 := by
      rw [← hlen, ← a2]
      exact zm12 9 _ (Nat.lt_of_le_of_lt a1 (by decide))
    have b2 : ¬ (1 < s.size ∧ bAt s 0 = 48) := fun ⟨c1, c2⟩ => by
      cases hl : s.data.toList with
      | nil => exact hne hl
      | cons c r =>
        have h4 := hhead c r hl
        have h5 : c = 48 := UInt8.toNat_inj.1 (by rw [h4, c2]; rfl)
        subst h5
        rw [hl] at a2
        have := (zu13 _ _ r (Nat.le_refl _) a2).1
        subst this
        rw [hl] at hlen
        simp at hlen
        omega
    rw [zb7 ⟨h1, b1, b2⟩]
    omega
  · rintro ⟨a1, a2⟩
    by_cases hb : 1 ≤ s.size ∧ s.size ≤ 10 ∧ ¬ (1 < s.size ∧ bAt s 0 = 48)
    · rw [zb7 hb] at a2
      refine ⟨by omega, ?_⟩
      refine (zd17 _ _ (Nat.le_refl _) hne hdL ?_).1
      by_cases h2 : s.size = 1
      · left; omega
      · right
        intro c r e
        rw [hhead c r e]
        exact fun h => hb.2.2 ⟨by omega, h⟩
    · rw [zb9 hb] at a1
      omega
theorem zm7 {P : Program} {f : FuncId} {ins : List AV} {res : AV} (he : entB P f = true)
    (hc : ∀ (w : World) (St : Nat → Prop) (φ : Nat → Lc) (K : Nat → Prop) (us : List Value), Gl w → VRL w St φ K ins us → Calls P f us.toArray w fun e w' => ∃ v, e = .returned v ∧ VRF w' (fun _ => False) φ0 K0 res v [] ∧ Below w.heap.size w w') : Ctr P f ins [] res [] := by
  refine ⟨he, fun w St φ F us' hent => ?_⟩
  refine (hc w St φ _ us' hent.gl.1 hent.args).mono ?_
  rintro e w' ⟨v, rfl, hv, hb⟩
  exact ⟨_, _, v, fun _ => False, fun _ => [], [], ⟨rfl, rfl⟩, rfl, ⟨⟨hb.os, hb.tape, hb.output, hb.size, fun b hlt _ => .inl (hb.block b hlt)⟩, hv, by simp, rfl, fun i cs hi => by simp at hi, fun i hi => by simp at hi, fun i hi => by simp at hi, fun i j hi => by simp at hi, fun i b lo hi => by simp at hi, fun b hb => by simp at hb, fun b hb => hb.elim⟩⟩
theorem vrf_2 {w : World} {St : Nat → Prop} {φ : Nat → Lc} {K : Nat → Prop} {a b : Value} {x y : AC} (ha : CR w St φ K x a []) (hb : CR w St φ K y b []) : VRF w St φ K (.tu [.c x, .c y]) (.tuple #[a, b]) [] := by
  simp only [VRF]
  refine ⟨[a, b], rfl, ?_⟩
  simp only [VRFL]
  refine ⟨a, [b], [], [], rfl, rfl, ?_, b, [], [], [], rfl, rfl, ?_, rfl, rfl⟩
  · simp only [VRF]; exact ha
  · simp only [VRF]; exact hb
theorem zh22 {s : ByteArray} (hd : allB digB s = true) (h1 : 1 ≤ s.size) (hs : s.size ≤ 1048576) (hv : valS s < 9223372036854775808) : Ctr Tryd.prog 46 [.c (.v (.string s))] [] (.tu [.c (.v (.int .i64 (valS s : Int))), .c (.v .nilIface)]) [] := by
  have hne : s.data.toList ≠ [] := fun h => by have := congrArg List.length h; rw [Array.length_toList] at this; have : s.size = 0 := this; omega
  refine zm7 (by kernel_rfl) fun w St φ K us gw h => ?_
  simp only [VRL, VR, CR] at h
  obtain ⟨u, us1, rfl, ⟨rfl, -⟩, rfl⟩ := h
  refine (Go.Proofs.Any.strconv_Atoi_ok zs13 s (by omega) (valS s : Int) (by rw [zt13 hne (zn12 hd)]; exact if_pos hv) w).mono ?_
  rintro e w' ⟨rfl, hw⟩
  refine ⟨_, rfl, vrf_2 (by simp only [CR]; exact ⟨trivial, rfl, trivial⟩) (by simp only [CR]; exact ⟨trivial, rfl, trivial⟩), ?_⟩
  rcases hw with rfl | ⟨t, rfl⟩
  · exact Below.refl _ _
  · exact Lib.bytesWorld_below w _ t
theorem zi22 {s : ByteArray} (hd : allB digB s = true) (h1 : 1 ≤ s.size) (hs : s.size ≤ 1048576) (hv : ¬ valS s < 9223372036854775808) : Ctr Tryd.prog 46 [.c (.v (.string s))] [] (.tu [.c (.v (.int .i64 (Lib.atoiSat s.data.toList))), .c .nn]) [] := by
  have hne : s.data.toList ≠ [] := fun h => by have := congrArg List.length h; rw [Array.length_toList] at this; have : s.size = 0 := this; omega
  refine zm7 (by kernel_rfl) fun w St φ K us gw h => ?_
  simp only [VRL, VR, CR] at h
  obtain ⟨u, us1, rfl, ⟨rfl, -⟩, rfl⟩ := h
  obtain ⟨te, pe, hev⟩ := zf14 gw
  refine (Go.Proofs.Any.strconv_Atoi_range zs13 s (by omega) (by rw [zt13 hne (zn12 hd)]; exact if_neg hv) _ w hev (.inr ⟨_, _, rfl⟩)).mono ?_
  rintro e w' ⟨N, rfl, -, -, hb⟩
  exact ⟨_, rfl, vrf_2 (by simp only [CR]; exact ⟨trivial, rfl, trivial⟩) (by simp only [CR]; exact ⟨trivial, _, _, rfl⟩), hb⟩
def hpS (s m : ByteArray) : Bool := Lib.hasPrefix s.data.toList m.data.toList
theorem zo12 (s m : ByteArray) : Ctr Tryd.prog 54 [.c (.v (.string s)), .c (.v (.string m))] [] (.c (.v (.bool (hpS s m)))) [] := by
  refine zm7 (by kernel_rfl) fun w St φ K us gw h => ?_
  simp only [VRL, VR, CR] at h
  obtain ⟨u, us1, rfl, ⟨rfl, -⟩, u2, us2, rfl, ⟨rfl, -⟩, rfl⟩ := h
  refine (Go.Proofs.Any.strings_HasPrefix lays99 s m w).mono ?_
  rintro e w' ⟨rfl, rfl⟩
  exact ⟨_, rfl, by unfold hpS; simp only [VRF, CR]; exact ⟨trivial, rfl, trivial⟩, Below.refl _ _⟩
section
variable {ops : Array Oper} {Q : Exit → Act → World → Prop} {C : Ctx} {H : List (Nat × Oper × Inf)} {i : Nat} {r : List Nat} {dr : Bool}
variable {tm : Nat → AV} {hp : Nat → Option Row} {gn L : Nat} {us : List Nat}
theorem zv13 {P : Program} {o : Oper} {σ : AS} {y : Value} (hop : ops[i]? = some o) (hg : gw ops σ.tm o = some true) (hs1 : scal y = true) (hr : ∀ (ev : Operand → Value) (w : World), (∀ z ∈ o.op.operands, ∃ St φ K, VR w St φ K (σ.ev z) (ev z)) → (execOp ev o).run P w = .ok (.value y) w) : Snd P ops Q C i o σ ⟨fpO σ.ev o, [], [], .c (.v y)⟩ := by
  intro τ a w ha hs K hK
  obtain ⟨φ, F, St, hs⟩ := hs
  have h3 := hr a.eval w fun z hz => ⟨St, φ, _, by rw [← ha.ev z hz]; exact hs.ev z⟩
  unfold wpOp
  rw [hop]
  have hw := zm14 hs (b := true) (by rw [ha.gw]; exact hg)
  simp only [hw, if_true]
  refine .inl ?_
  unfold Oper.wp
  rw [h3]
  have h7 := hs.put o.dst (x := .c (.v y)) (u := y) (by simp only [VR, CR]; exact ⟨trivial, hs1, trivial⟩)
  exact hK _ _ ⟨φ, F, St, h7⟩
theorem run_nn {P : Program} {o : Oper} {T ty t : TypeId} {p : Value} {xo : Operand} (ho : o.op = .binOp .neq T xo (.const .nilIface) ty) (hT : P.isIface T = true) (ev : Operand → Value) (w : World) (hx : ev xo = .iface t p) (hy : ev (.const .nilIface) = .nilIface) : (execOp ev o).run P w = .ok (.value (.bool true)) w := by
  unfold execOp
  rw [ho]
  simp only [hx, hy]
  simp [Sem.run_bind, eqGuard, run_neq_iface_nil w T hT t p]
theorem o_nn {t : Nat} {gd : Option (Nat × Bool)} {ps : String} {af : Array Edge} {ty ty' : TypeId} {xo : Operand} (h : Walk Tryd.prog ops Q C dr (keepH dr (i, (⟨some t, .binOp .neq 62 xo (.const .nilIface) ty', ty, ps, af, gd⟩ : Oper), ⟨fpO (AS.ev ⟨tm, hp, gn, us, L⟩) (⟨some t, .binOp .neq 62 xo (.const .nilIface) ty', ty, ps, af, gd⟩ : Oper), [], [], .c (.v (.bool true))⟩) H) r ⟨upd tm t (.c (.v (.bool true))), hp, gn, us, L⟩)
    (ht : Nat.blt t L = true := by exact rfl) (hg : gw ops tm (⟨some t, .binOp .neq 62 xo (.const .nilIface) ty', ty, ps, af, gd⟩ : Oper) = some true := by exact rfl) (hx : AS.ev ⟨tm, hp, gn, us, L⟩ xo = .c .nn := by exact rfl)
    (hc : chk dr ops i (⟨some t, .binOp .neq 62 xo (.const .nilIface) ty', ty, ps, af, gd⟩ : Oper) ⟨fpO (AS.ev ⟨tm, hp, gn, us, L⟩) (⟨some t, .binOp .neq 62 xo (.const .nilIface) ty', ty, ps, af, gd⟩ : Oper), [], [], .c (.v (.bool true))⟩ H = true := by first | (with_reducible exact zf2) | kernel_rfl) : WalkO Tryd.prog ops Q C dr H i (⟨some t, .binOp .neq 62 xo (.const .nilIface) ty', ty, ps, af, gd⟩ : Oper) r ⟨tm, hp, gn, us, L⟩ := ⟨fun hop => by
  refine ⟨_, _, hop, zv13 (y := .bool true) hop hg rfl fun ev w he => ?_, fun n hn => absurd hn List.not_mem_nil, zu4 hc, zw3 ?_⟩
  · obtain ⟨St, φ, K, h1⟩ := he xo (by show xo ∈ #[xo, .const .nilIface]; simp)
    rw [hx] at h1
    simp only [VR, CR] at h1
    obtain ⟨-, t', p, h1⟩ := h1
    obtain ⟨St, φ, K, h2⟩ := he (.const .nilIface) (by show _ ∈ #[xo, .const .nilIface]; simp)
    have h3 : ev (.const .nilIface) = .nilIface := by
      have h4 : VR w St φ K (.c (.v .nilIface)) (ev (.const .nilIface)) := h2
      simp only [VR, CR] at h4
      exact h4.1
    exact run_nn rfl (by kernel_rfl) ev w h1 h3
  · show Walk Tryd.prog ops Q C dr _ r (AS.put _ (some t) _)
    rw [zf5 (by exact zy4 ht)]; exact h⟩
theorem zl11 (a0 b0 : Int) (a1 b1 : Int) (a2 b2 : ByteArray) (w : World) : (Op.equalIn 10000 31 (.agg #[.int .i64 a0, .int .i64 a1, .string a2]) (.agg #[.int .i64 b0, .int .i64 b1, .string b2])).run Tryd.prog w = .ok ((a0 == b0) && ((a1 == b1) && (a2.toList == b2.toList))) w := by
  rw [run_equalIn_agg w 9999 _ _ _ (by kernel_rfl) (by kernel_rfl)]
  simp only [Program.fieldsOf, Tryd.underlying31, Op.eqFields]
  simp [go_sem]
  by_cases h0 : a0 = b0 <;> by_cases h1 : a1 = b1 <;> by_cases h2 : a2.toList = b2.toList <;> simp [*]
theorem zj22 {t : Nat} {gd : Option (Nat × Bool)} {ps : String} {af : Array Edge} {ty ty' : TypeId} {xo yo : Operand} {a0 b0 : Int} {a1 b1 : Int} {a2 b2 : ByteArray} (h : Walk Tryd.prog ops Q C dr (keepH dr (i, (⟨some t, .binOp .eql 31 xo yo ty', ty, ps, af, gd⟩ : Oper), ⟨fpO (AS.ev ⟨tm, hp, gn, us, L⟩) (⟨some t, .binOp .eql 31 xo yo ty', ty, ps, af, gd⟩ : Oper), [], [], .c (.v (.bool ((a0 == b0) && ((a1 == b1) && (a2.toList == b2.toList)))))⟩) H) r ⟨upd tm t (.c (.v (.bool ((a0 == b0) && ((a1 == b1) && (a2.toList == b2.toList)))))), hp, gn, us, L⟩)
    (ht : Nat.blt t L = true := by exact rfl) (hg : gw ops tm (⟨some t, .binOp .eql 31 xo yo ty', ty, ps, af, gd⟩ : Oper) = some true := by exact rfl) (hx : AS.ev ⟨tm, hp, gn, us, L⟩ xo = .ag [.v (.int .i64 a0), .v (.int .i64 a1), .v (.string a2)] := by exact rfl) (hy : AS.ev ⟨tm, hp, gn, us, L⟩ yo = .ag [.v (.int .i64 b0), .v (.int .i64 b1), .v (.string b2)] := by exact rfl)
    (hc : chk dr ops i (⟨some t, .binOp .eql 31 xo yo ty', ty, ps, af, gd⟩ : Oper) ⟨fpO (AS.ev ⟨tm, hp, gn, us, L⟩) (⟨some t, .binOp .eql 31 xo yo ty', ty, ps, af, gd⟩ : Oper), [], [], .c (.v (.bool ((a0 == b0) && ((a1 == b1) && (a2.toList == b2.toList)))))⟩ H = true := by first | (with_reducible exact zf2) | kernel_rfl) : WalkO Tryd.prog ops Q C dr H i (⟨some t, .binOp .eql 31 xo yo ty', ty, ps, af, gd⟩ : Oper) r ⟨tm, hp, gn, us, L⟩ :=
  ⟨fun hop => w_eqS (xs := [.int .i64 a0, .int .i64 a1, .string a2]) (ys := [.int .i64 b0, .int .i64 b1, .string b2]) hop rfl rfl ht hg (by kernel_rfl) (by rw [hx]; rfl) (by rw [hy]; rfl) (zl11 a0 b0 a1 b1 a2 b2) (.inl ⟨rfl, rfl⟩) hc h⟩
theorem zd9 {t : Nat} {gd : Option (Nat × Bool)} {ps : String} {af : Array Edge} {ty ty' : TypeId} {xo yo : Operand} {a0 b0 : Int} {a1 b1 : Int} {a2 b2 : ByteArray} (h : Walk Tryd.prog ops Q C false [] r ⟨upd tm t (.c (.v (.bool ((a0 == b0) && ((a1 == b1) && (a2.toList == b2.toList)))))), hp, gn, us, L⟩) (ht : Nat.blt t L = true := by exact rfl) (hg : gw ops tm (⟨some t, .binOp .eql 31 xo yo ty', ty, ps, af, gd⟩ : Oper) = some true := by exact rfl) (hx : AS.ev ⟨tm, hp, gn, us, L⟩ xo = .ag [.v (.int .i64 a0), .v (.int .i64 a1), .v (.string a2)] := by exact rfl) (hy : AS.ev ⟨tm, hp, gn, us, L⟩ yo = .ag [.v (.int .i64 b0), .v (.int .i64 b1), .v (.string b2)] := by exact rfl) : WalkO Tryd.prog ops Q C false [] i (⟨some t, .binOp .eql 31 xo yo ty', ty, ps, af, gd⟩ : Oper) r ⟨tm, hp, gn, us, L⟩ := zj22 (dr := false) (H := []) (h := h) (ht := ht) (hg := hg) (hx := hx) (hy := hy)
end
theorem zh10 {s : ByteArray} {a b k : Nat} (hb : b ≤ s.size) : (cutB s a b).data.toList[k]? = if a + k < b then some (UInt8.ofNat (bAt s (a + k))) else none := by
  unfold cutB bAt
  rw [Array.getElem?_toList, ByteArray.data_extract, Array.getElem?_extract]
  have e : s.data.size = s.size := rfl
  by_cases h : a + k < b
  · rw [if_pos h, if_pos (by omega), Array.getElem?_eq_getElem (show a + k < s.data.size by omega), Option.getD_some, UInt8.ofNat_toNat]
  · rw [if_neg h, if_neg (by omega)]
theorem ze17 {a b : Nat} (ha : a < 256) (hb : b < 256) (h : UInt8.ofNat a = UInt8.ofNat b) : a = b := by
  have := congrArg UInt8.toNat h
  rw [UInt8.toNat_ofNat', UInt8.toNat_ofNat'] at this
  omega
theorem zf17 {s : ByteArray} {a c : Nat} (ha : a ≤ s.size) (hc : c < 256) : Lib.indexByte (cutB s a s.size).data.toList (UInt8.ofNat c) = if runF (neB c) s s.size a < s.size then ((runF (neB c) s s.size a - a : Nat) : Int) else -1 := by
  obtain ⟨g1, g2, g3', g4'⟩ := zv2 (p := neB c) (s := s) s.size a ha (by omega)
  have g3 : ∀ j, a ≤ j → j < runF (neB c) s s.size a → bAt s j ≠ c := fun j h1 h2 => by simpa [neB] using g3' j h1 h2
  have g4 : runF (neB c) s s.size a < s.size → bAt s (runF (neB c) s s.size a) = c := fun h => by simpa [neB] using g4' h
  clear g3' g4'
  have hge := Lib.indexByte_ge (cutB s a s.size).data.toList (UInt8.ofNat c)
  rcases Int.lt_or_le (Lib.indexByte (cutB s a s.size).data.toList (UInt8.ofNat c)) 0 with hn | hn
  · have e : Lib.indexByte (cutB s a s.size).data.toList (UInt8.ofNat c) = -1 := by omega
    rw [e]
    have h0 := Lib.indexByte_none e
    by_cases hu : runF (neB c) s s.size a < s.size
    · exfalso
      have h1 := h0 (runF (neB c) s s.size a - a)
      rw [zh10 (Nat.le_refl _), if_pos (by omega), show a + (runF (neB c) s s.size a - a) = runF (neB c) s s.size a by omega, g4 hu] at h1
      exact h1 rfl
    · rw [if_neg hu]
  · obtain ⟨o, ho⟩ : ∃ o : Nat, Lib.indexByte (cutB s a s.size).data.toList (UInt8.ofNat c) = (o : Int) := ⟨_, (Int.toNat_of_nonneg hn).symm⟩
    obtain ⟨h1, h2⟩ := Lib.indexByte_some ho
    rw [zh10 (Nat.le_refl _)] at h1
    by_cases hlt : a + o < s.size
    · rw [if_pos hlt] at h1
      injection h1 with h1
      have h3 := ze17 (ze4 _ _) hc h1
      have h4 : runF (neB c) s s.size a = a + o := by
        rcases Nat.lt_trichotomy (runF (neB c) s s.size a) (a + o) with h | h | h
        · exfalso
          have h5 := h2 (runF (neB c) s s.size a - a) (by omega)
          rw [zh10 (Nat.le_refl _), if_pos (by omega), show a + (runF (neB c) s s.size a - a) = runF (neB c) s s.size a by omega, g4 (by omega)] at h5
          exact h5 rfl
        · exact h
        · exact absurd h3 (g3 (a + o) (by omega) h)
      rw [ho, h4, if_pos hlt, show a + o - a = o by omega]
    · rw [if_neg hlt] at h1; cases h1
theorem zq9 {s : ByteArray} (hs : s.size ≤ 1048576) (h0 : 0 < s.size) : Ctr Tryd.prog 44 [.c (.v (.string s))] [] (if runF (neB (bAt s 0)) s s.size 1 = s.size then .tu [.c (.v (.string ByteArray.empty)), .c (.v (.bool false))] else .tu [.c (.v (.string (cutB s 1 (runF (neB (bAt s 0)) s s.size 1)))), .c (.v (.bool true))]) [] := by
  have c1 := zt6 (cutB s 1 s.size) (ze4 s 0)
  rw [zf17 (by omega) (ze4 s 0)] at c1
  have hr := zv2 (p := neB (bAt s 0)) (s := s) s.size 1 (by omega) (by omega)
  have g1 := hr.1
  have g2 := hr.2.1
  clear hr
  generalize runF (neB (bAt s 0)) s s.size 1 = e at c1 g1 g2 ⊢
  by_cases h : e = s.size
  · rw [if_pos h]
    rw [if_neg (by omega)] at c1
    refine za2 Tryd.func44 rfl rfl ?_
    repeat' (first | ((apply f_wo); first | ((apply f_mv); first | refine zv (v := .c _) ?_ | refine za ?_) | ((apply f_as); first | refine zt (v := .c _) ?_ | refine za ?_) | ((apply f_ca); first | refine zk1 (c1) ?_ | refine zh1 (c1) ?_) | ((apply zm1); first | refine zh ?_ | refine za ?_) | ((apply zj1); first | refine zg ?_ | refine zi1 ?_ | refine za ?_) | refine zy1 ?_ | refine zn2 ?_ | refine zo2 ?_ | refine zp2 ?_ | refine za ?_ | refine n_mv ?_) | ((apply f_w); first | refine zx ?_ | refine zd ?_) | ((apply d_wo); first | ((apply d_mv); refine zy ?_) | ((apply d_as); refine zy ?_) | ((apply d_ca); first | refine zt2 (c1) ?_) | ((apply d_bb); first | refine zr1 ?_ | refine zs1 ?_ | refine zt1 ?_ | refine zu3 ?_ | refine zy ?_) | refine zq4 ?_ | refine zr4 ?_ | refine zs4 ?_ | refine zt4 ?_ | refine zy ?_ | refine o_mv ?_) | ((apply d_w); first | refine zx ?_ | refine zd ?_) | refine zb fun C => ?_ | refine za1 (by kernel_rfl) (by kernel_rfl) fun C => ?_ | refine zj ?_ | refine zc ?_ | refine ze ?_ | refine zf ?_ | refine zp rfl ?_ | refine zq rfl ?_)
    refine zw ?_; refine ret0 rfl (zn3 (zf1 zu1 (zf1 zu1 zj2))) ⟨?_, rfl⟩; rfl
  · rw [if_neg h]
    rw [if_pos (by omega)] at c1
    have he : ((e - 1 : Nat) : Int) + 1 = (e : Int) := by omega
    refine za2 Tryd.func44 rfl rfl ?_
    repeat' (first | ((apply f_wo); first | ((apply f_mv); first | refine zv (v := .c _) ?_ | refine za ?_) | ((apply f_as); first | refine zt (v := .c _) ?_ | refine za ?_) | ((apply f_ca); first | refine zk1 (c1) ?_ | refine zh1 (c1) ?_) | ((apply zm1); first | refine zh ?_ | refine za ?_) | ((apply zj1); first | refine zg ?_ | refine zi1 ?_ | refine za ?_) | refine zy1 ?_ | refine zn2 ?_ | refine zo2 ?_ | refine zp2 ?_ | refine za ?_ | refine n_mv ?_) | ((apply f_w); first | refine zx ?_ | refine zd ?_) | ((apply d_wo); first | ((apply d_mv); refine zy ?_) | ((apply d_as); refine zy ?_) | ((apply d_ca); first | refine zt2 (c1) ?_) | ((apply d_bb); first | refine zr1 ?_ | refine zs1 ?_ | refine zt1 ?_ | refine zu3 ?_ | refine zy ?_) | refine zq4 ?_ | refine zr4 ?_ | refine zs4 ?_ | refine zt4 ?_ | refine zy ?_ | refine o_mv ?_) | ((apply d_w); first | refine zx ?_ | refine zd ?_) | refine zb fun C => ?_ | refine za1 (by kernel_rfl) (by kernel_rfl) fun C => ?_ | refine zj ?_ | refine zc ?_ | refine ze ?_ | refine zf ?_ | (refine zr (by rfl) ?_ ?_ <;> intro hC <;> (try cases hC)))
    all_goals first
      | (exfalso; simp only [decide_eq_true_iff] at hC; omega)
      | (refine zw ?_; refine ret0 rfl (zn3 (zf1 zu1 (zf1 zu1 zj2))) ⟨?_, rfl⟩; rfl)
end Go.Proofs.YtnlgmojciplnoaaDoor
