/- make([]byte, n) in the machine. -/
import Derived.StillTailTactics
import Derived.Test.YtghljnfbbaklnaaEntriesK
namespace Go.Proofs.Ytghljnfbbaklnaa
open Go.RowKit
set_option maxRecDepth 100000
theorem zr12 {w : World} {St : Nat → Prop} {φ : Nat → Lc} {K : Nat → Prop} : ∀ n : Nat, CRL w St φ K (bytC (List.replicate n 0)) (List.replicate n (.int .u8 0)) []
  | 0 => CRL.nil
  | n + 1 => by
    show CRL w St φ K (.v (.int .u8 ((0 : UInt8).toNat : Int)) :: bytC (List.replicate n 0)) (.int .u8 0 :: List.replicate n (.int .u8 0)) ([] ++ [])
    exact CRL.cons (by simp only [CR]; exact ⟨rfl, rfl, trivial⟩) (zr12 n)
theorem zi16 (n : Nat) : madeCells #[.int .u8 0] n = (List.replicate n (Value.int .u8 0)).toArray := by
  unfold madeCells
  apply Array.ext'
  refine List.ext_getElem? fun i => ?_
  simp only [Array.toList_map, Array.toList_range, List.getElem?_map, List.getElem?_range, List.getElem?_replicate]
  by_cases h : i < n
  · simp [h, Nat.mod_one]
  · simp [h]
theorem zm21 {ops : Array Oper} {Q : Exit → Act → World → Prop} {C : Ctx} {H : List (Nat × Oper × Inf)} {dr : Bool} {i : Nat} {r : List Nat} {tm : Nat → AV} {hp : Nat → Option Row} {gn L : Nat} {us : List Nat} {ty : TypeId} {gd : Option (Nat × Bool)} {ps : String} {af : Array Edge} {t n : Nat} {xo yo : Operand}
    (h : Walk Try.prog ops Q C dr (keepH dr (i, (⟨some t, .makeSlice 22 xo yo, ty, ps, af, gd⟩ : Oper), ⟨[], [(t, some ⟨5, 1, n, false, bytC (List.replicate n 0)⟩)], [t], .c (.sl t n)⟩) H) r ⟨upd tm t (.c (.sl t n)), upd hp t (some ⟨5, 1, n, false, bytC (List.replicate n 0)⟩), gn, t :: us, L⟩)
    (ht : Nat.blt t L = true := by exact rfl) (hg : gw ops tm (⟨some t, .makeSlice 22 xo yo, ty, ps, af, gd⟩ : Oper) = some true := by exact rfl) (hf : (Nat.ble gn t && !us.contains t) = true := by exact rfl)
    (hx : AS.ev ⟨tm, hp, gn, us, L⟩ xo = .c (.v (.int .i64 (n : Int))) := by exact rfl) (hy : AS.ev ⟨tm, hp, gn, us, L⟩ yo = .c (.v (.int .i64 (n : Int))) := by exact rfl) (hn : n ≤ 16777216 := by omega)
    (hc : chk dr ops i (⟨some t, .makeSlice 22 xo yo, ty, ps, af, gd⟩ : Oper) ⟨[], [(t, some ⟨5, 1, n, false, bytC (List.replicate n 0)⟩)], [t], .c (.sl t n)⟩ H = true := by first | (with_reducible exact zr1) | kernel_rfl) :
    WalkO Try.prog ops Q C dr H i (⟨some t, .makeSlice 22 xo yo, ty, ps, af, gd⟩ : Oper) r ⟨tm, hp, gn, us, L⟩ := ⟨fun hop => by
  simp only [Bool.and_eq_true, Nat.ble_eq, Bool.not_eq_true'] at hf
  have hnu : t ∉ us := fun hm => by have := hf.2; simp at this; exact this hm
  refine ⟨_, ⟨[], [(t, some ⟨5, 1, n, false, bytC (List.replicate n 0)⟩)], [t], .c (.sl t n)⟩, hop, ?_, fun m hm => ?_, zd5 hc, ?_⟩
  · intro τ a w ha hsim K hK
    obtain ⟨φ, F, St, hsim⟩ := hsim
    have e1 : τ.ev xo = .c (.v (.int .i64 (n : Int))) := by rw [ha.ev xo (by show xo ∈ #[xo, yo]; simp)]; exact hx
    have e2 : τ.ev yo = .c (.v (.int .i64 (n : Int))) := by rw [ha.ev yo (by show yo ∈ #[xo, yo]; simp)]; exact hy
    have v1 := hsim.ev xo
    have v2 := hsim.ev yo
    rw [e1] at v1
    rw [e2] at v2
    simp only [VR, CR] at v1 v2
    have hmk := za22 (P := Try.prog) Try.underlying22 (show (Try.prog.info? 5).map (fun i => (i.zero, i.size, i.bytes)) = some (some (.int .u8 0), 1, 1) by kernel_rfl) n (by omega) (by omega) w
    unfold wpOp
    rw [hop]
    have hw := ze10 hsim (b := true) (by rw [ha.gw]; exact hg)
    simp only [hw, if_true]
    refine .inl ?_
    unfold Oper.wp
    have hrun : (execOp a.eval (⟨some t, .makeSlice 22 xo yo, ty, ps, af, gd⟩ : Oper)).run Try.prog w = .ok (.value (.slice (some ⟨w.heap.size, 0, none⟩) n n)) (w.alloc (.cells (List.replicate n (Value.int .u8 0)).toArray 5)) := by
      rw [Nat.mul_one, show (Value.int .u8 0).cells = #[.int .u8 0] from rfl, zi16] at hmk
      unfold execOp
      simp only [v1.1, v2.1]
      simp [Sem.run_bind, hmk]
    rw [hrun]
    have hown := World.ownsRow_lit (base := 0) (e := 5) (size := 1) w (List.replicate n (Value.int .u8 0)).toArray n (Nat.zero_le _) (by unfold maxLen; omega) (by simp)
    obtain ⟨φ', F', St', s1, s2⟩ := hsim.newSlice (id := t) (by rw [ha.gn]; exact hf.1) (ha.us t (by simp)) (b0 := none) (Stp.alloc w (.cells (List.replicate n (Value.int .u8 0)).toArray 5) none) (fun b hb => by cases hb) (zr12 (w := w) (St := St) (φ := φ) (K := τ.Kn) n) (fun b hb => absurd hb List.not_mem_nil) (by simpa using hown) (by simp [obl, Value.ownBlock]) (fun b hb => .inl (by simp [obl, Value.ownBlock] at hb; omega))
    exact hK _ _ ⟨φ', F', St', s1.put (some t) s2⟩
  · have : m = t := by simpa using hm
    subst this
    exact hnu
  · refine zg4 ?_
    show Walk Try.prog ops Q C dr _ r (AS.put _ (some t) _)
    rw [zs5 (by exact zm5 ht)]; exact h⟩
theorem zk22 {ops : Array Oper} {Q : Exit → Act → World → Prop} {C : Ctx} {i : Nat} {r : List Nat} {tm : Nat → AV} {hp : Nat → Option Row} {gn L : Nat} {us : List Nat} {ty : TypeId} {gd : Option (Nat × Bool)} {ps : String} {af : Array Edge} {t n : Nat} {xo yo : Operand}
    (h : Walk Try.prog ops Q C false [] r ⟨upd tm t (.c (.sl t n)), upd hp t (some ⟨5, 1, n, false, bytC (List.replicate n 0)⟩), gn, t :: us, L⟩)
    (ht : Nat.blt t L = true := by exact rfl) (hg : gw ops tm (⟨some t, .makeSlice 22 xo yo, ty, ps, af, gd⟩ : Oper) = some true := by exact rfl) (hf : (Nat.ble gn t && !us.contains t) = true := by exact rfl)
    (hx : AS.ev ⟨tm, hp, gn, us, L⟩ xo = .c (.v (.int .i64 (n : Int))) := by exact rfl) (hy : AS.ev ⟨tm, hp, gn, us, L⟩ yo = .c (.v (.int .i64 (n : Int))) := by exact rfl) (hn : n ≤ 16777216 := by omega) :
    WalkO Try.prog ops Q C false [] i (⟨some t, .makeSlice 22 xo yo, ty, ps, af, gd⟩ : Oper) r ⟨tm, hp, gn, us, L⟩ := zm21 (dr := false) (H := []) (h := h) (ht := ht) (hg := hg) (hf := hf) (hx := hx) (hy := hy) (hn := hn)
end Go.Proofs.Ytghljnfbbaklnaa
namespace Go.Proofs.Ytghljnfbbaklnaa
open Go.RowKit
end Go.Proofs.Ytghljnfbbaklnaa
namespace Go.Proofs.Ytghljnfbbaklnaa
open Go.RowKit
structure GVal where
  k : Int
  n : Int
  s : ByteArray
structure GCell where
  refs : Int
  v : GVal
end Go.Proofs.Ytghljnfbbaklnaa
namespace Go.Proofs.Ytghljnfbbaklnaa
open Go.RowKit
end Go.Proofs.Ytghljnfbbaklnaa
namespace Go.Proofs.Ytghljnfbbaklnaa
open Go.RowKit
end Go.Proofs.Ytghljnfbbaklnaa
namespace Go.Proofs.Ytghljnfbbaklnaa
open Go.RowKit
def wrapI (n : Int) : Int := (n + 2147483648) % 4294967296 - 2147483648
theorem zl22 (n : Int) : bits .and .i64 n 4294967295 = n % 4294967296 := by
  have h1 : (BitVec.ofInt 64 n).toNat = (n % 18446744073709551616).toNat := by rw [BitVec.toNat_ofInt]; rfl
  have h2 : (BitVec.ofInt 64 4294967295).toNat = 2 ^ 32 - 1 := by rfl
  show IntKind.i64.wrap ((BitVec.ofInt 64 n &&& BitVec.ofInt 64 4294967295).toNat : Int) = _
  rw [BitVec.toNat_and, h1, h2, Nat.and_two_pow_sub_one_eq_mod, IntKind.wrap_i64]
  omega
theorem zp10 (n : Int) (w : World) (h : -9223372036854775808 ≤ n ∧ n ≤ 9223372036854775807) : Calls Try.prog 94 #[.int .i64 n] w fun e w' => e = .returned (.int .i64 (wrapI n)) ∧ w' = w := by
  have h1 := zl22 n
  have hw : -2147483648 ≤ wrapI n ∧ wrapI n ≤ 2147483647 := by unfold wrapI; omega
  by_cases h2 : 2147483647 < n % 4294967296
  · have e : wrapI n = n % 4294967296 - 4294967296 := by unfold wrapI; omega
    rw [e]
    clear e hw
    go_enter Try.func94, Try.ntmps94
    go_wp2
    go_ret
    exact ⟨rfl, rfl⟩
  · have e : wrapI n = n % 4294967296 := by unfold wrapI; omega
    rw [e]
    clear e hw
    go_enter Try.func94, Try.ntmps94
    go_wp2
    go_ret
    exact ⟨rfl, rfl⟩
set_option maxRecDepth 100000
def I64 (z : Int) : Prop := -9223372036854775808 ≤ z ∧ z ≤ 9223372036854775807
theorem zn13 {n : Int} (hn : I64 n) : Ctr Try.prog 94 [.c (.v (.int .i64 n))] [] (.c (.v (.int .i64 (wrapI n)))) [] := by
  refine zl10 (us := [.int .i64 n]) (by kernel_rfl) rfl (fun w St φ K us' h => ?_) fun w => (zp10 n w hn).mono fun e w' h => ⟨h.1, by obtain ⟨-, rfl⟩ := h; exact Below.refl _ _⟩
  simp only [VRL, VR, CR] at h
  obtain ⟨u, us1, rfl, ⟨rfl, -⟩, rfl⟩ := h
  rfl
theorem zq10 (n : Int) : I64 (wrapI n) := by unfold I64 wrapI; omega
theorem zh20 {n : Int} (hn : I64 n) : Ctr Try.prog 116 [.c (.v (.int .i64 n))] [] (.ag [.v (.int .i64 1), .v (.int .i64 (wrapI n)), .v (.string ⟨#[]⟩)]) [] := by
  have hc := zn13 hn
  refine zt1 Try.func116 rfl rfl ?_
  repeat' (first | ((apply f_wo); first | ((apply f_mv); first | refine zm1 (v := .c _) ?_ | refine zb ?_) | ((apply f_ca); first | refine zc4 (hc) ?_ | refine zy3 (hc) ?_) | ((apply f_st); first | refine n_st ?_ | refine zo2 ?_) | refine n_al ?_ | refine zb ?_) | ((apply f_w); first | refine zy ?_ | refine zd ?_) | refine za fun C => ?_ | refine zi ?_ | refine ze ?_ | refine zg ?_ | refine zh ?_)
  refine zq ?_; refine ret0 rfl (zr3 (zx3 rfl (zx3 rfl (zx3 rfl zl2)))) ⟨?_, rfl⟩
  rfl
theorem zx17 (s : ByteArray) : Ctr Try.prog 117 [.c (.v (.string s))] [] (.ag [.v (.int .i64 2), .v (.int .i64 0), .v (.string s)]) [] := by
  refine zt1 Try.func117 rfl rfl ?_
  repeat' (first | ((apply f_wo); first | ((apply f_mv); first | refine zm1 (v := .c _) ?_ | refine zb ?_) | ((apply f_st); first | refine n_st ?_ | refine zo2 ?_) | refine n_al ?_ | refine zb ?_) | ((apply f_w); first | refine zy ?_ | refine zd ?_) | refine za fun C => ?_ | refine zi ?_ | refine ze ?_ | refine zg ?_ | refine zh ?_)
  refine zq ?_; refine ret0 rfl (zr3 (zx3 rfl (zx3 rfl (zx3 rfl zl2)))) ⟨?_, rfl⟩
  rfl
def drTexts : List ByteArray := [⟨#[]⟩, ⟨#[97]⟩, ⟨#[97, 98]⟩, ⟨#[49, 50]⟩, ⟨#[45, 51, 120]⟩, ⟨#[48]⟩, ⟨#[119, 111, 114, 100]⟩, ⟨#[45]⟩, ⟨#[57, 57, 57, 57, 57, 57, 57, 57, 57, 57, 57]⟩]
theorem zr10 : ∀ s ∈ drTexts, s.size ≤ 11 := by
  intro s hs
  simp only [drTexts, List.mem_cons, List.not_mem_nil, or_false] at hs
  rcases hs with rfl | rfl | rfl | rfl | rfl | rfl | rfl | rfl | rfl <;> decide
def VOk (a b : Int) (s : ByteArray) : Prop := I64 a ∧ I64 b ∧ s.size ≤ 201
theorem lt5 {k : Nat} (h : (k : Int) < 5) : k = 0 ∨ k = 1 ∨ k = 2 ∨ k = 3 ∨ k = 4 := by omega
theorem zm6 {cs : List AC} (hc : Curs cs) : ∃ (a b : Int) (s : ByteArray) (cs' : List AC), Curs cs' ∧ VOk a b s ∧ Ctr Try.prog 84 [.c (.pt 0 0)] [cs] (.ag [.v (.int .i64 a), .v (.int .i64 b), .v (.string s)]) [cs'] := by
  have cc := za1 hc
  obtain ⟨k, cs1, h1, hk, c1⟩ := zt4 hc 5 (by decide)
  have cc1 := za1 h1
  obtain ⟨z, cs2, h2, hz, c2⟩ := zh16 h1 [0, 1, 2, 3, -1, 7, 10, 2147483647, -2147483648] (by decide)
  have cc2 := za1 h2
  have hz64 : I64 z := by
    simp only [List.mem_cons, List.not_mem_nil, or_false] at hz
    unfold I64; omega
  have c3 := zh20 hz64
  obtain ⟨s, cs4, h4, hs, c4⟩ := zg7 h1 drTexts (by decide)
  have cc4 := za1 h4
  have c5 := zx17 s
  rcases lt5 hk with rfl | rfl | rfl | rfl | rfl
  · refine ⟨0, 0, ⟨#[]⟩, cs1, h1, ⟨by unfold I64; decide, by unfold I64; decide, by decide⟩, zt1 Try.func84 rfl rfl ?_⟩
    repeat' (first | ((apply f_wo); first | ((apply f_mv); first | refine zm1 (v := .c _) ?_ | refine zb ?_) | ((apply f_as); first | refine zo1 (v := .c _) ?_ | refine zb ?_) | ((apply f_ca); first | refine zg3 0 (c1) ?_ (hl := zw1 (by rfl) cc) | refine zg6 0 [12] (c2) ?_ (hl := zw1 (by rfl) cc1) | refine zc4 (c3) ?_ | refine zy3 (c3) ?_ | refine zg6 0 [16] (c4) ?_ (hl := zw1 (by rfl) cc1) | refine zc4 (c5) ?_ | refine zy3 (c5) ?_) | ((apply f_st); first | refine n_st ?_ | refine zo2 ?_) | ((apply zl3); first | refine zl1 ?_ | refine zb ?_) | refine n_al ?_ | refine n_bs ?_ | refine zb ?_) | ((apply f_w); first | refine zy ?_ | refine zd ?_) | refine za fun C => ?_ | refine zi ?_ | refine ze ?_ | refine zg ?_ | refine zh ?_ | refine zp1 rfl ?_ | refine zq1 rfl ?_)
    refine zq ?_
    refine ret1 rfl (zr3 (zx3 rfl (zx3 rfl (zx3 rfl zl2)))) rfl cc1 (zy2 h1 hc) ⟨rfl, rfl⟩
  · refine ⟨1, wrapI z, ⟨#[]⟩, cs2, h2, ⟨by unfold I64; decide, zq10 z, by decide⟩, zt1 Try.func84 rfl rfl ?_⟩
    repeat' (first | ((apply f_wo); first | ((apply f_mv); first | refine zm1 (v := .c _) ?_ | refine zb ?_) | ((apply f_as); first | refine zo1 (v := .c _) ?_ | refine zb ?_) | ((apply f_ca); first | refine zg3 0 (c1) ?_ (hl := zw1 (by rfl) cc) | refine zg6 0 [12] (c2) ?_ (hl := zw1 (by rfl) cc1) | refine zc4 (c3) ?_ | refine zy3 (c3) ?_ | refine zg6 0 [16] (c4) ?_ (hl := zw1 (by rfl) cc1) | refine zc4 (c5) ?_ | refine zy3 (c5) ?_) | ((apply f_st); first | refine n_st ?_ | refine zo2 ?_) | ((apply zl3); first | refine zl1 ?_ | refine zb ?_) | refine n_al ?_ | refine n_bs ?_ | refine zb ?_) | ((apply f_w); first | refine zy ?_ | refine zd ?_) | refine za fun C => ?_ | refine zi ?_ | refine ze ?_ | refine zg ?_ | refine zh ?_ | refine zp1 rfl ?_ | refine zq1 rfl ?_)
    refine zq ?_
    refine ret1 rfl (zr3 (zx3 rfl (zx3 rfl (zx3 rfl zl2)))) rfl cc2 (zy2 h2 hc) ⟨rfl, rfl⟩
  · refine ⟨1, wrapI z, ⟨#[]⟩, cs2, h2, ⟨by unfold I64; decide, zq10 z, by decide⟩, zt1 Try.func84 rfl rfl ?_⟩
    repeat' (first | ((apply f_wo); first | ((apply f_mv); first | refine zm1 (v := .c _) ?_ | refine zb ?_) | ((apply f_as); first | refine zo1 (v := .c _) ?_ | refine zb ?_) | ((apply f_ca); first | refine zg3 0 (c1) ?_ (hl := zw1 (by rfl) cc) | refine zg6 0 [12] (c2) ?_ (hl := zw1 (by rfl) cc1) | refine zc4 (c3) ?_ | refine zy3 (c3) ?_ | refine zg6 0 [16] (c4) ?_ (hl := zw1 (by rfl) cc1) | refine zc4 (c5) ?_ | refine zy3 (c5) ?_) | ((apply f_st); first | refine n_st ?_ | refine zo2 ?_) | ((apply zl3); first | refine zl1 ?_ | refine zb ?_) | refine n_al ?_ | refine n_bs ?_ | refine zb ?_) | ((apply f_w); first | refine zy ?_ | refine zd ?_) | refine za fun C => ?_ | refine zi ?_ | refine ze ?_ | refine zg ?_ | refine zh ?_ | refine zp1 rfl ?_ | refine zq1 rfl ?_)
    refine zq ?_
    refine ret1 rfl (zr3 (zx3 rfl (zx3 rfl (zx3 rfl zl2)))) rfl cc2 (zy2 h2 hc) ⟨rfl, rfl⟩
  all_goals
    refine ⟨2, 0, s, cs4, h4, ⟨by unfold I64; decide, by unfold I64; decide, by have := zr10 s hs; omega⟩, zt1 Try.func84 rfl rfl ?_⟩
    repeat' (first | ((apply f_wo); first | ((apply f_mv); first | refine zm1 (v := .c _) ?_ | refine zb ?_) | ((apply f_as); first | refine zo1 (v := .c _) ?_ | refine zb ?_) | ((apply f_ca); first | refine zg3 0 (c1) ?_ (hl := zw1 (by rfl) cc) | refine zg6 0 [12] (c2) ?_ (hl := zw1 (by rfl) cc1) | refine zc4 (c3) ?_ | refine zy3 (c3) ?_ | refine zg6 0 [16] (c4) ?_ (hl := zw1 (by rfl) cc1) | refine zc4 (c5) ?_ | refine zy3 (c5) ?_) | ((apply f_st); first | refine n_st ?_ | refine zo2 ?_) | ((apply zl3); first | refine zl1 ?_ | refine zb ?_) | refine n_al ?_ | refine n_bs ?_ | refine zb ?_) | ((apply f_w); first | refine zy ?_ | refine zd ?_) | refine za fun C => ?_ | refine zi ?_ | refine ze ?_ | refine zg ?_ | refine zh ?_ | refine zp1 rfl ?_ | refine zq1 rfl ?_)
    refine zq ?_
    refine ret1 rfl (zr3 (zx3 rfl (zx3 rfl (zx3 rfl zl2)))) rfl cc4 (zy2 h4 hc) ⟨rfl, rfl⟩
theorem zi20 {cs : List AC} (hc : Curs cs) : ∃ (z : Int) (cs' : List AC), Curs cs' ∧ I64 z ∧ Ctr Try.prog 85 [.c (.pt 0 0)] [cs] (.c (.v (.int .i64 z))) [cs'] := by
  have cc := za1 hc
  obtain ⟨k, cs1, h1, hk, c1⟩ := zt4 hc 100000 (by decide)
  have cc1 := za1 h1
  obtain ⟨z, cs2, h2, hz, c2⟩ := zh16 h1 [0, 1, -1, 63, 64, -64, -65, 127, 128, 300, 2147483647, -2147483648, 2147483648, -2147483649, 4294967296, 9223372036854775807, -9223372036854775808, (k : Int)] (by simp)
  have cc2 := za1 h2
  have hz64 : I64 z := by
    simp only [List.mem_cons, List.not_mem_nil, or_false] at hz
    unfold I64; omega
  refine ⟨z, cs2, h2, hz64, zt1 Try.func85 rfl rfl ?_⟩
  repeat' (first | ((apply f_wo); first | ((apply f_mv); first | refine zm1 (v := .c _) ?_ | refine zb ?_) | ((apply f_as); first | refine zo1 (v := .c _) ?_ | refine zb ?_) | ((apply f_ca); first | refine zg3 0 (c1) ?_ (hl := zw1 (by rfl) cc) | refine zg6 0 [6] (c2) ?_ (hl := zw1 (by rfl) cc1)) | refine n_bs ?_ | refine zb ?_) | ((apply f_w); first | refine zy ?_ | refine zd ?_) | refine za fun C => ?_ | refine zi ?_ | refine ze ?_ | refine zg ?_ | refine zh ?_)
  refine zq ?_
  exact ret1 rfl zj4 rfl cc2 (zy2 h2 hc) ⟨rfl, rfl⟩
theorem lt12 {k : Nat} (h : (k : Int) < 12) : k = 0 ∨ k = 1 ∨ k = 2 ∨ 3 ≤ k := by omega
theorem zo11 {cs : List AC} (hc : Curs cs) : ∃ (a b : Int) (s : ByteArray) (cs' : List AC), Curs cs' ∧ VOk a b s ∧ Ctr Try.prog 39 [.c (.pt 0 0)] [cs] (.ag [.v (.int .i64 a), .v (.int .i64 b), .v (.string s)]) [cs'] := by
  have cc := za1 hc
  obtain ⟨a, b, s, cs1, h1, hv, c1⟩ := zm6 hc
  have cc1 := za1 h1
  obtain ⟨k, cs2, h2, hk, c2⟩ := zt4 h1 12 (by decide)
  have cc2 := za1 h2
  obtain ⟨q, cs3, h3, hq, c3⟩ := zt4 h2 4 (by decide)
  have cc3 := za1 h3
  obtain ⟨z, cs4, h4, hz, c4⟩ := zi20 h2
  have cc4 := za1 h4
  obtain ⟨m, cs5, h5, hm, c5⟩ := zt4 h2 2 (by decide)
  have cc5 := za1 h5
  obtain ⟨w1, w2, w3⟩ := hv
  rcases lt12 hk with rfl | rfl | rfl | hk3
  · refine ⟨(q : Int), b, s, cs3, h3, ⟨by unfold I64; omega, w2, w3⟩, zt1 Try.func39 rfl rfl ?_⟩
    repeat' (first | ((apply f_wo); first | ((apply f_mv); first | refine zm1 (v := .c _) ?_ | refine zb ?_) | ((apply f_as); first | refine zo1 (v := .c _) ?_ | refine zb ?_) | ((apply f_fa); first | refine n_fa ?_ | refine zr2 ?_) | ((apply f_ld); first | refine zs1 ?_ | refine zm2 ?_ | refine n_ld ?_) | ((apply f_ca); first | refine zg3 0 (c1) ?_ (hl := zw1 (by rfl) cc) | refine zg3 0 (c2) ?_ (hl := zw1 (by rfl) cc1) | refine zg3 0 (c3) ?_ (hl := zw1 (by rfl) cc2) | refine zg3 0 (c4) ?_ (hl := zw1 (by rfl) cc2) | refine zg3 0 (c5) ?_ (hl := zw1 (by rfl) cc2)) | ((apply f_st); first | refine n_st ?_ | refine zo2 ?_) | ((apply zl3); first | refine zl1 ?_ | refine zb ?_) | ((apply zj2); first | refine zr ?_ | refine zi2 ?_ | refine zb ?_) | ((apply f_cv); first | refine zv3 ?_ | refine zr4 ?_ | refine zs4 ?_ | refine zb ?_) | refine n_al ?_ | refine zb ?_) | ((apply f_w); first | refine zy ?_ | refine zd ?_) | refine za fun C => ?_ | refine zi ?_ | refine ze ?_ | refine zg ?_ | refine zh ?_ | refine zp1 rfl ?_ | refine zq1 rfl ?_)
    refine zq ?_
    exact ret1 rfl (zr3 (zx3 rfl (zx3 rfl (zx3 rfl zl2)))) rfl cc3 (zy2 h3 hc) ⟨rfl, rfl⟩
  · refine ⟨a, z, s, cs4, h4, ⟨w1, hz, w3⟩, zt1 Try.func39 rfl rfl ?_⟩
    repeat' (first | ((apply f_wo); first | ((apply f_mv); first | refine zm1 (v := .c _) ?_ | refine zb ?_) | ((apply f_as); first | refine zo1 (v := .c _) ?_ | refine zb ?_) | ((apply f_fa); first | refine n_fa ?_ | refine zr2 ?_) | ((apply f_ld); first | refine zs1 ?_ | refine zm2 ?_ | refine n_ld ?_) | ((apply f_ca); first | refine zg3 0 (c1) ?_ (hl := zw1 (by rfl) cc) | refine zg3 0 (c2) ?_ (hl := zw1 (by rfl) cc1) | refine zg3 0 (c4) ?_ (hl := zw1 (by rfl) cc2)) | ((apply f_st); first | refine n_st ?_ | refine zo2 ?_) | ((apply zl3); first | refine zl1 ?_ | refine zb ?_) | ((apply zj2); first | refine zr ?_ | refine zi2 ?_ | refine zb ?_) | ((apply f_cv); first | refine zv3 ?_ | refine zr4 ?_ | refine zs4 ?_ | refine zb ?_) | refine n_al ?_ | refine zb ?_) | ((apply f_w); first | refine zy ?_ | refine zd ?_) | refine za fun C => ?_ | refine zi ?_ | refine ze ?_ | refine zg ?_ | refine zh ?_ | refine zp1 rfl ?_ | refine zq1 rfl ?_)
    refine zq ?_
    exact ret1 rfl (zr3 (zx3 rfl (zx3 rfl (zx3 rfl zl2)))) rfl cc4 (zy2 h4 hc) ⟨rfl, rfl⟩
  · have hm2 : (m : Int) = 0 ∨ (m : Int) = 1 := by omega
    refine ⟨a, b, ⟨(List.replicate (200 + m) 0).toArray⟩, cs5, h5, ⟨w1, w2, by show (List.toArray _).size ≤ 201; simp; omega⟩, zt1 Try.func39 rfl rfl ?_⟩
    repeat' (first | ((apply f_wo); first | ((apply f_mv); first | refine zm1 (v := .c _) ?_ | refine zb ?_) | ((apply f_as); first | refine zo1 (v := .c _) ?_ | refine zb ?_) | ((apply f_fa); first | refine n_fa ?_ | refine zr2 ?_) | ((apply f_ld); first | refine zs1 ?_ | refine zm2 ?_ | refine n_ld ?_) | ((apply f_ca); first | refine zg3 0 (c1) ?_ (hl := zw1 (by rfl) cc) | refine zg3 0 (c2) ?_ (hl := zw1 (by rfl) cc1) | refine zg3 0 (c5) ?_ (hl := zw1 (by rfl) cc2)) | ((apply f_st); first | refine n_st ?_ | refine zo2 ?_) | ((apply zl3); first | refine zl1 ?_ | refine zb ?_) | ((apply zj2); first | refine zr ?_ | refine zi2 ?_ | refine zb ?_) | ((apply f_cv); first | refine zv3 ?_ | refine zr4 ?_ | refine zs4 ?_ | refine zb ?_) | refine n_al ?_ | refine zb ?_) | ((apply f_w); first | refine zy ?_ | refine zd ?_) | refine za fun C => ?_ | refine zi ?_ | refine ze ?_ | refine zg ?_ | refine zh ?_ | refine zp1 rfl ?_ | refine zq1 rfl ?_)
    refine zk22 (n := 200 + m) ?_
    repeat' (first | ((apply f_wo); first | ((apply f_mv); first | refine zm1 (v := .c _) ?_ | refine zb ?_) | ((apply f_as); first | refine zo1 (v := .c _) ?_ | refine zb ?_) | ((apply f_fa); first | refine n_fa ?_ | refine zr2 ?_) | ((apply f_ld); first | refine zs1 ?_ | refine zm2 ?_ | refine n_ld ?_) | ((apply f_st); first | refine n_st ?_ | refine zo2 ?_) | ((apply zl3); first | refine zl1 ?_ | refine zb ?_) | ((apply zj2); first | refine zr ?_ | refine zi2 ?_ | refine zb ?_) | ((apply f_cv); first | refine zv3 ?_ | refine zr4 ?_ | refine zs4 ?_ | refine zb ?_) | refine n_al ?_ | refine zb ?_) | ((apply f_w); first | refine zy ?_ | refine zd ?_) | refine za fun C => ?_ | refine zi ?_ | refine ze ?_ | refine zg ?_ | refine zh ?_ | refine zp1 rfl ?_ | refine zq1 rfl ?_)
    refine zq ?_
    exact ret1 rfl (zr3 (zx3 rfl (zx3 rfl (zx3 rfl zl2)))) rfl cc5 (zy2 h5 hc) ⟨rfl, rfl⟩
  · refine ⟨a, b, s, cs2, h2, ⟨w1, w2, w3⟩, zt1 Try.func39 rfl rfl ?_⟩
    repeat' (first | ((apply f_wo); first | ((apply f_mv); first | refine zm1 (v := .c _) ?_ | refine zb ?_) | ((apply f_as); first | refine zo1 (v := .c _) ?_ | refine zb ?_) | ((apply f_fa); first | refine n_fa ?_ | refine zr2 ?_) | ((apply f_ld); first | refine zs1 ?_ | refine zm2 ?_ | refine n_ld ?_) | ((apply f_ca); first | refine zg3 0 (c1) ?_ (hl := zw1 (by rfl) cc) | refine zg3 0 (c2) ?_ (hl := zw1 (by rfl) cc1)) | ((apply f_st); first | refine n_st ?_ | refine zo2 ?_) | ((apply zl3); first | refine zl1 ?_ | refine zb ?_) | ((apply zj2); first | refine zr ?_ | refine zi2 ?_ | refine zb ?_) | ((apply f_cv); first | refine zv3 ?_ | refine zr4 ?_ | refine zs4 ?_ | refine zb ?_) | refine n_al ?_ | refine zb ?_) | ((apply f_w); first | refine zy ?_ | refine zd ?_) | refine za fun C => ?_ | refine zi ?_ | refine ze ?_ | refine zg ?_ | refine zh ?_)
    refine zu1 (by rfl) (fun hC => absurd (eq_of_beq hC) (by omega)) fun hC => ?_
    repeat' (first | ((apply f_wo); first | ((apply f_mv); first | refine zm1 (v := .c _) ?_ | refine zb ?_) | ((apply f_as); first | refine zo1 (v := .c _) ?_ | refine zb ?_) | ((apply f_fa); first | refine n_fa ?_ | refine zr2 ?_) | ((apply f_ld); first | refine zs1 ?_ | refine zm2 ?_ | refine n_ld ?_) | ((apply f_st); first | refine n_st ?_ | refine zo2 ?_) | ((apply zl3); first | refine zl1 ?_ | refine zb ?_) | ((apply zj2); first | refine zr ?_ | refine zi2 ?_ | refine zb ?_) | ((apply f_cv); first | refine zv3 ?_ | refine zr4 ?_ | refine zs4 ?_ | refine zb ?_) | refine n_al ?_ | refine zb ?_) | ((apply f_w); first | refine zy ?_ | refine zd ?_) | refine za fun C => ?_ | refine zi ?_ | refine ze ?_ | refine zg ?_ | refine zh ?_)
    refine zu1 (by rfl) (fun hC => absurd (eq_of_beq hC) (by omega)) fun hC => ?_
    repeat' (first | ((apply f_wo); first | ((apply f_mv); first | refine zm1 (v := .c _) ?_ | refine zb ?_) | ((apply f_as); first | refine zo1 (v := .c _) ?_ | refine zb ?_) | ((apply f_fa); first | refine n_fa ?_ | refine zr2 ?_) | ((apply f_ld); first | refine zs1 ?_ | refine zm2 ?_ | refine n_ld ?_) | ((apply f_st); first | refine n_st ?_ | refine zo2 ?_) | ((apply zl3); first | refine zl1 ?_ | refine zb ?_) | ((apply zj2); first | refine zr ?_ | refine zi2 ?_ | refine zb ?_) | ((apply f_cv); first | refine zv3 ?_ | refine zr4 ?_ | refine zs4 ?_ | refine zb ?_) | refine n_al ?_ | refine zb ?_) | ((apply f_w); first | refine zy ?_ | refine zd ?_) | refine za fun C => ?_ | refine zi ?_ | refine ze ?_ | refine zg ?_ | refine zh ?_)
    refine zu1 (by rfl) (fun hC => absurd (eq_of_beq hC) (by omega)) fun hC => ?_
    repeat' (first | ((apply f_wo); first | ((apply f_mv); first | refine zm1 (v := .c _) ?_ | refine zb ?_) | ((apply f_as); first | refine zo1 (v := .c _) ?_ | refine zb ?_) | ((apply f_fa); first | refine n_fa ?_ | refine zr2 ?_) | ((apply f_ld); first | refine zs1 ?_ | refine zm2 ?_ | refine n_ld ?_) | ((apply f_st); first | refine n_st ?_ | refine zo2 ?_) | ((apply zl3); first | refine zl1 ?_ | refine zb ?_) | ((apply zj2); first | refine zr ?_ | refine zi2 ?_ | refine zb ?_) | ((apply f_cv); first | refine zv3 ?_ | refine zr4 ?_ | refine zs4 ?_ | refine zb ?_) | refine n_al ?_ | refine zb ?_) | ((apply f_w); first | refine zy ?_ | refine zd ?_) | refine za fun C => ?_ | refine zi ?_ | refine ze ?_ | refine zg ?_ | refine zh ?_)
    refine zq ?_
    exact ret1 rfl (zr3 (zx3 rfl (zx3 rfl (zx3 rfl zl2)))) rfl cc2 (zy2 h2 hc) ⟨rfl, rfl⟩
end Go.Proofs.Ytghljnfbbaklnaa
namespace Go.Proofs.Ytghljnfbbaklnaa
open Go.RowKit
end Go.Proofs.Ytghljnfbbaklnaa
namespace Go.Proofs.Ytghljnfbbaklnaa
open Go.RowKit
theorem zh4 {e : E} (h : e.Ty Try.prog 29) : ∃ (x0 : Int) (x1 : Int) (x2 : ByteArray), e = (E.agg [.int .i64 x0, .int .i64 x1, .str x2]) ∧ ((Lit.int .i64 x0).wf = true) ∧ ((Lit.int .i64 x1).wf = true) ∧ (x2.size ≤ 9223372036854775807) ∧ True := by
  obtain ⟨fs, rfl, q0⟩ := h.agg_ Try.underlying29
  change E.TyF _ _ [3, 3, 9] at q0
  obtain ⟨e0, r0, rfl, h0, q1⟩ := q0.cons_
  obtain ⟨e1, r1, rfl, h1, q2⟩ := q1.cons_
  obtain ⟨e2, r2, rfl, h2, q3⟩ := q2.cons_
  obtain rfl := q3.nil_
  obtain ⟨x0, rfl, gx0⟩ := h0.int_ Try.underlying3
  obtain ⟨x1, rfl, gx1⟩ := h1.int_ Try.underlying3
  obtain ⟨x2, rfl, gx2⟩ := h2.str_ Try.underlying9
  exact ⟨x0, x1, x2, rfl, gx0, gx1, gx2, trivial⟩
theorem zi8 {e : E} (h : e.Ty Try.prog 46) : ∃ (x0 : Int) (x1 : Int) (x2 : Int) (x3 : ByteArray), e = (E.agg [.int .i64 x0, (.agg [.int .i64 x1, .int .i64 x2, .str x3])]) ∧ ((Lit.int .i64 x0).wf = true) ∧ ((Lit.int .i64 x1).wf = true) ∧ ((Lit.int .i64 x2).wf = true) ∧ (x3.size ≤ 9223372036854775807) ∧ True := by
  obtain ⟨fs, rfl, q0⟩ := h.agg_ Try.underlying46
  change E.TyF _ _ [3, 29] at q0
  obtain ⟨e0, r0, rfl, h0, q1⟩ := q0.cons_
  obtain ⟨e1, r1, rfl, h1, q2⟩ := q1.cons_
  obtain rfl := q2.nil_
  obtain ⟨x0, rfl, gx0⟩ := h0.int_ Try.underlying3
  obtain ⟨x1, x2, x3, rfl, gx1, gx2, gx3, -⟩ := zh4 h1
  exact ⟨x0, x1, x2, x3, rfl, gx0, gx1, gx2, gx3, trivial⟩
end Go.Proofs.Ytghljnfbbaklnaa
namespace Go.Proofs.Ytghljnfbbaklnaa
open Go.RowKit
end Go.Proofs.Ytghljnfbbaklnaa
namespace Go.Proofs.Ytghljnfbbaklnaa
open Go.RowKit
theorem zm7 {e : E} (h : e.Ty Try.prog 34) : ∃ (x0 : ByteArray) (x1 : Int) (x2 : Int) (x3 : ByteArray), e = (E.agg [.str x0, (.agg [.int .i64 x1, .int .i64 x2, .str x3])]) ∧ (x0.size ≤ 9223372036854775807) ∧ ((Lit.int .i64 x1).wf = true) ∧ ((Lit.int .i64 x2).wf = true) ∧ (x3.size ≤ 9223372036854775807) ∧ True := by
  obtain ⟨fs, rfl, q0⟩ := h.agg_ Try.underlying34
  change E.TyF _ _ [9, 29] at q0
  obtain ⟨e0, r0, rfl, h0, q1⟩ := q0.cons_
  obtain ⟨e1, r1, rfl, h1, q2⟩ := q1.cons_
  obtain rfl := q2.nil_
  obtain ⟨x0, rfl, gx0⟩ := h0.str_ Try.underlying9
  obtain ⟨x1, x2, x3, rfl, gx1, gx2, gx3, -⟩ := zh4 h1
  exact ⟨x0, x1, x2, x3, rfl, gx0, gx1, gx2, gx3, trivial⟩
theorem zh3 {e : E} (h : e.Ty Try.prog 82) : ∃ (x0 : ByteArray) (x1 : Int) (x2 : Int) (x3 : ByteArray), e = (E.agg [.str x0, (.agg [.int .i64 x1, .int .i64 x2, .str x3])]) ∧ (x0.size ≤ 9223372036854775807) ∧ ((Lit.int .i64 x1).wf = true) ∧ ((Lit.int .i64 x2).wf = true) ∧ (x3.size ≤ 9223372036854775807) ∧ True := by
  obtain ⟨fs, rfl, q0⟩ := h.agg_ Try.underlying82
  change E.TyF _ _ [9, 29] at q0
  obtain ⟨e0, r0, rfl, h0, q1⟩ := q0.cons_
  obtain ⟨e1, r1, rfl, h1, q2⟩ := q1.cons_
  obtain rfl := q2.nil_
  obtain ⟨x0, rfl, gx0⟩ := h0.str_ Try.underlying9
  obtain ⟨x1, x2, x3, rfl, gx1, gx2, gx3, -⟩ := zh4 h1
  exact ⟨x0, x1, x2, x3, rfl, gx0, gx1, gx2, gx3, trivial⟩
theorem zh2 {e : E} (h : e.Ty Try.prog 80) : ∃ (x0 : ByteArray) (x1A : Option Addr) (x1c : Nat) (x1l : List E), e = (E.agg [.str x0, .lst 4 82 x1A x1c x1l]) ∧ (x0.size ≤ 9223372036854775807) ∧ ((∀ y ∈ x1l, y.Ty Try.prog 82) ∧ (∀ y ∈ x1l, y.enc.length = 4)) ∧ True := by
  obtain ⟨fs, rfl, q0⟩ := h.agg_ Try.underlying80
  change E.TyF _ _ [9, 78] at q0
  obtain ⟨e0, r0, rfl, h0, q1⟩ := q0.cons_
  obtain ⟨e1, r1, rfl, h1, q2⟩ := q1.cons_
  obtain rfl := q2.nil_
  obtain ⟨x0, rfl, gx0⟩ := h0.str_ Try.underlying9
  obtain ⟨x1A, x1c, x1l, rfl, gx1, gx1'⟩ := h1.lst_ Try.underlying78 (k := 4) (by kernel_rfl)
  exact ⟨x0, x1A, x1c, x1l, rfl, gx0, ⟨gx1, gx1'⟩, trivial⟩
theorem zz2 {e : E} (h : e.Ty Try.prog 27) : ∃ (x0A : Option Addr) (x0c : Nat) (x0l : List E) (x1A : Option Addr) (x1c : Nat) (x1l : List E), e = (E.agg [.lst 4 34 x0A x0c x0l, .lst 2 80 x1A x1c x1l]) ∧ ((∀ y ∈ x0l, y.Ty Try.prog 34) ∧ (∀ y ∈ x0l, y.enc.length = 4)) ∧ ((∀ y ∈ x1l, y.Ty Try.prog 80) ∧ (∀ y ∈ x1l, y.enc.length = 2)) ∧ True := by
  obtain ⟨fs, rfl, q0⟩ := h.agg_ Try.underlying27
  change E.TyF _ _ [24, 25] at q0
  obtain ⟨e0, r0, rfl, h0, q1⟩ := q0.cons_
  obtain ⟨e1, r1, rfl, h1, q2⟩ := q1.cons_
  obtain rfl := q2.nil_
  obtain ⟨x0A, x0c, x0l, rfl, gx0, gx0'⟩ := h0.lst_ Try.underlying24 (k := 4) (by kernel_rfl)
  obtain ⟨x1A, x1c, x1l, rfl, gx1, gx1'⟩ := h1.lst_ Try.underlying25 (k := 2) (by kernel_rfl)
  exact ⟨x0A, x0c, x0l, x1A, x1c, x1l, rfl, ⟨gx0, gx0'⟩, ⟨gx1, gx1'⟩, trivial⟩
set_option maxRecDepth 100000
def nmE (e : E) : ByteArray := match e with | .agg (.str s :: _) => s | _ => ByteArray.empty
def varsE (e : E) : List E := match e with | .agg (.lst _ _ _ _ l :: _) => l | _ => []
def tabsE (e : E) : List E := match e with | .agg (_ :: .lst _ _ _ _ l :: _) => l | _ => []
def isNm (s : ByteArray) (e : E) : Bool := (nmE e).toList == s.toList
def rfE (e : E) : Int := match e with | .agg (.int _ n :: _) => n | _ => 0
def isFree (e : E) : Bool := rfE e == 0
def allL (l : List E) (v : E) : List E := match l.findIdx? isFree with | some i => l.set i (.agg [.int .i64 1, v]) | none => l ++ [.agg [.int .i64 1, v]]
theorem zs7 {z : Int} (h0 : -9223372036854775808 ≤ z) (h : z ≤ 9223372036854775807) : IntKind.i64.wrap z = z := by
  rw [IntKind.wrap_i64]; omega
def zVal : E := .agg [.int .i64 0, .int .i64 0, .str ByteArray.empty]
def vE (e : E) : E := match e with | .agg [_, v] => v | _ => zVal
def heldLE (l : List E) (k : Int) : Bool := decide (0 ≤ k) && (decide (k < l.length) && decide (0 < rfE (l[k.toNat]?.getD zVal)))
def holdLE (l : List E) (k : Int) : List E := if heldLE l k then l.set k.toNat (.agg [.int .i64 (IntKind.i64.wrap (rfE (l[k.toNat]?.getD zVal) + 1)), vE (l[k.toNat]?.getD zVal)]) else l
def heapE (l : List E) : E := .agg [.lst 4 46 none 0 l]
theorem zj20 {l : List E} {k : Int} (h : ¬ (0 ≤ k ∧ k < l.length)) : heldLE l k = false := by
  unfold heldLE
  by_cases h0 : 0 ≤ k
  · have h1 : ¬ k < l.length := fun h1 => h ⟨h0, h1⟩
    simp [h1]
  · simp [h0]
theorem zs12 {l : List E} {i : Nat} {r : Int} {v : E} (hx : l[i]? = some (.agg [.int .i64 r, v])) : heldLE l (i : Int) = decide (0 < r) := by
  have := (List.getElem?_eq_some_iff.1 hx).1
  unfold heldLE
  simp [hx, rfE]
  omega
theorem zj16 {l : List E} {k : Int} (h : heldLE l k = false) : holdLE l k = l := by unfold holdLE; rw [h]; rfl
theorem zy17 {l : List E} (hl : ∀ e ∈ l, e.Ty Try.prog 46) {k : Int} (h : heldLE l k = true) : ∃ (i : Nat) (r v0 v1 : Int) (v2 : ByteArray), k = (i : Int) ∧ i < l.length ∧ l[i]? = some (.agg [.int .i64 r, .agg [.int .i64 v0, .int .i64 v1, .str v2]]) ∧ 0 < r ∧ r ≤ 9223372036854775807 := by
  by_cases h1 : 0 ≤ k ∧ k < l.length
  · obtain ⟨i, rfl⟩ : ∃ i : Nat, k = (i : Int) := ⟨k.toNat, by omega⟩
    obtain ⟨x, hx⟩ : ∃ x, l[i]? = some x := ⟨_, List.getElem?_eq_getElem (by omega)⟩
    obtain ⟨r, y1, y2, y3, rfl, hy, -⟩ := zi8 (hl x (List.mem_of_getElem? hx))
    rw [zs12 hx] at h
    exact ⟨i, r, y1, y2, y3, rfl, by omega, hx, of_decide_eq_true h, (za13 hy).2⟩
  · rw [zj20 h1] at h; cases h
theorem zo13 {l : List E} {i : Nat} {r v0 v1 : Int} {v2 : ByteArray} (hx : l[i]? = some (.agg [.int .i64 r, .agg [.int .i64 v0, .int .i64 v1, .str v2]])) (h : 0 < r) : holdLE l (i : Int) = l.set i (.agg [.int .i64 (IntKind.i64.wrap (r + 1)), .agg [.int .i64 v0, .int .i64 v1, .str v2]]) := by
  unfold holdLE
  rw [zs12 hx, if_pos (by simpa using h)]
  simp [hx, rfE, vE]
end Go.Proofs.Ytghljnfbbaklnaa
