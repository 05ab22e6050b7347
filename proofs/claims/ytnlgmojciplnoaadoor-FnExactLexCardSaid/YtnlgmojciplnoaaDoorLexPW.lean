/- What is read as tokens is right: plain laws; the result's type and size. -/
import Derived.Deep.DeepCutAuto
import Derived.Test.YtnlgmojciplnoaaDoorLexPV
namespace Go.Proofs.YtnlgmojciplnoaaDoor
open Go.RowKit
set_option maxRecDepth 100000
theorem zk15 {s : ByteArray} {a : Nat} {rex : Bool} (ha : a < s.size) (h : (oneR s a rex).ok = true) : good rex ((oneR s a rex).k, (oneR s a rex).n, (oneR s a rex).s) := by
  refine ⟨h, fun h4 => ?_, fun h5 hs => ?_⟩
  · dsimp only at h4
    have hq3 : (quoR s a 3).k = 4 → False := fun h => by
      unfold quoR at h
      split at h <;> (dsimp only at h; omega)
    unfold oneR at h4
    split at h4
    · (dsimp only at h4; omega)
    · split at h4
      · (dsimp only at h4; omega)
      · split at h4
        · exact (hq3 h4).elim
        · split at h4
          · rename_i hh; exact hh.2
          · split at h4 <;> (dsimp only at h4; omega)
  · dsimp only at h5 hs
    have hq : ∀ k : Int, k ≠ 5 → (quoR s a k).k = 5 → False := fun k hk h => by
      unfold quoR at h
      split at h
      · (dsimp only at h; omega)
      · exact hk h
    unfold oneR at h5 hs
    split at h5
    · (dsimp only at h5; omega)
    · rename_i n1
      rw [if_neg n1] at hs
      split at h5
      · (dsimp only at h5; omega)
      · rename_i n2
        rw [if_neg n2] at hs
        split at h5
        · exact (hq 3 (by decide) h5).elim
        · rename_i n3
          rw [if_neg n3] at hs
          split at h5
          · exact (hq 4 (by decide) h5).elim
          · rename_i n4
            rw [if_neg n4] at hs
            split at hs
            · rename_i hh
              have hz := zu2 (s := s) (a := a) (b := a + 2) (by omega) (by omega)
              have hs' : cutB s a (a + 2) = ⟨#[47]⟩ := hs
              rw [hs'] at hz
              have : (⟨#[47]⟩ : ByteArray).size = 1 := rfl
              omega
            · have hs' : cutB s a (a + 1) = ⟨#[47]⟩ := hs
              have e := za4 (s := s) (a := a) (b := a + 1) (j := 0) (by omega) (by omega)
              rw [hs'] at e
              have e' : bAt s a = 47 := e.symm
              cases rex with
              | false => rfl
              | true => exact absurd ⟨e', rfl⟩ n4
theorem zq9 {s : ByteArray} : ∀ (f a : Nat) (rex : Bool) (out : List T3), ch false out rex → out.length ≤ 2000 →
    ∃ (l : List T3) (r' : Bool), (lexR s f a rex (out.map T3.E)).1 = l.map T3.E ∧ ch false l r' ∧ l.length ≤ 2000 ∧ (((lexR s f a rex (out.map T3.E)).2 = -1) ∨ (0 ≤ (lexR s f a rex (out.map T3.E)).2 ∧ (lexR s f a rex (out.map T3.E)).2 < s.size ∧ l = []))
  | 0, a, rex, out, hc, hl => ⟨out, rex, rfl, hc, hl, .inl rfl⟩
  | f + 1, a, rex, out, hc, hl => by
    unfold lexR
    split
    · rename_i ha
      split
      · rename_i hh
        have hg := zk15 ha hh.1
        have hm := hh.2
        rw [List.length_map] at hm
        have := zq9 (s := s) f (passF s (s.size + 1) (oneR s a rex).e) (tilB (oneR s a rex).k (oneR s a rex).s) (out ++ [((oneR s a rex).k, (oneR s a rex).n, (oneR s a rex).s)]) (zi15 hc hg) (by rw [List.length_append, List.length_singleton]; omega)
        rw [List.map_append] at this
        exact this
      · exact ⟨[], false, rfl, rfl, Nat.zero_le _, .inr ⟨Int.natCast_nonneg _, by show (a : Int) < _; omega, rfl⟩⟩
    · exact ⟨out, rex, rfl, hc, hl, .inl rfl⟩
theorem zr9 (s : ByteArray) : ∃ (l : List T3) (r' : Bool), (lexW s).1 = l.map T3.E ∧ ch false l r' ∧ l.length ≤ 2000 ∧ ((lexW s).2 = -1 ∨ (0 ≤ (lexW s).2 ∧ (lexW s).2 < s.size ∧ l = [])) :=
  zq9 (s := s) (s.size + 1) (passT s 0) false [] rfl (Nat.zero_le _)
theorem zu11 {k n : Int} {s : ByteArray} (h : tokOk k n s = true) : s.size ≤ 200 ∧ 0 ≤ n ∧ n ≤ 2147483647 ∧ 1 ≤ k ∧ k ≤ 5 := by
  unfold tokOk at h
  split at h
  · simp only [Bool.and_eq_true, decide_eq_true_iff] at h; omega
  · split at h
    · simp only [nameW, Bool.and_eq_true, decide_eq_true_iff] at h; omega
    · split at h
      · simp only [textB, Bool.and_eq_true, decide_eq_true_iff] at h; omega
      · split at h
        · simp only [textB, Bool.and_eq_true, decide_eq_true_iff] at h; omega
        · split at h
          · simp only [Bool.and_eq_true, decide_eq_true_iff] at h
            have h2 : s.size ≤ 2 := by
              have := h.1
              simp only [markB, Bool.or_eq_true, Bool.and_eq_true, decide_eq_true_iff] at this
              omega
            omega
          · cases h
theorem zv17 {x : Int} (h0 : -9223372036854775808 ≤ x) (h1 : x ≤ 9223372036854775807) : (Lit.int .i64 x).wf = true := by
  have e1 : IntKind.i64.min = -9223372036854775808 := by decide
  have e2 : IntKind.i64.max = 9223372036854775807 := by decide
  simp only [Lit.wf, Bool.and_eq_true, decide_eq_true_iff]
  rw [e1, e2]
  omega
theorem T3.Ty {t : T3} (h : tokOk t.1 t.2.1 t.2.2 = true) : t.E.Ty Tryd.prog 31 := by
  have := zu11 h
  refine E.Ty.mk_agg Tryd.underlying31 (E.TyF.mk_cons ?_ (E.TyF.mk_cons ?_ (E.TyF.mk_cons ?_ E.TyF.mk_nil)))
  · simp only [E.Ty]; exact ⟨Tryd.underlying3, zv17 (by omega) (by omega)⟩
  · simp only [E.Ty]; exact ⟨Tryd.underlying3, zv17 (by omega) (by omega)⟩
  · simp only [E.Ty]; exact ⟨Tryd.underlying9, by unfold maxLen; omega⟩
def lexE (s : ByteArray) : E := .lst 3 31 none 0 (lexW s).1
theorem zo19 (s : ByteArray) : (lexE s).Ty Tryd.prog 24 := by
  obtain ⟨l, r', e, hc, -, -⟩ := zr9 s
  unfold lexE
  rw [e]
  refine E.Ty.mk_lst Tryd.underlying24 (by kernel_rfl) (fun y hy => ?_) (fun y hy => ?_)
  · obtain ⟨t, ht, rfl⟩ := List.mem_map.1 hy
    exact T3.Ty (zo10 hc t ht)
  · obtain ⟨t, ht, rfl⟩ := List.mem_map.1 hy
    rfl
theorem zl15 : ∀ {l : List T3}, (∀ t ∈ l, tokOk t.1 t.2.1 t.2.2 = true) → E.szL (l.map T3.E) ≤ l.length * 200
  | [], _ => Nat.le_refl _
  | t :: l, h => by
    have h1 := zl15 (l := l) fun x hx => h x (List.mem_cons_of_mem _ hx)
    have h2 := (zu11 (h t (List.mem_cons_self ..))).1
    rw [List.map_cons, List.length_cons]
    have : t.E.sz = t.2.2.size := by
      show E.sz (.agg [.int .i64 t.1, .int .i64 t.2.1, .str t.2.2]) = _
      simp [E.sz, E.szL]
    simp only [E.szL]
    omega
theorem zp19 (s : ByteArray) : (lexE s).sz ≤ 1073741824 := by
  obtain ⟨l, r', e, hc, hl, -⟩ := zr9 s
  have h := zl15 (zo10 hc)
  unfold lexE
  rw [e]
  simp only [E.sz, List.length_map]
  omega
noncomputable def lexoD (s : ByteArray) : E := (lexE s).d
def lexoD1 (s : ByteArray) : Int := (lexW s).2
theorem zv11 {f : FuncId} {s : ByteArray} (hc : Ctr Tryd.prog f [.c (.v (.string s))] [] (.tu [avO (lexE s), .c (.v (.int .i64 (lexW s).2))]) []) (w : World) (gw : Gl w := by (first | assumption | exact gl_any _ | exact Gl.below_ gl0 (by exact (by repeat (first | (with_reducible refine Below.setCell ?_ (by first | omega | (· simp) | (· (simp; omega))) _) | (with_reducible refine Below.alloc ?_ (by first | omega | (· simp) | (· (simp; omega))) _) | (with_reducible refine Below.drew ?_) | (with_reducible refine zy3 ?_ _) | (with_reducible exact Below.refl _ _) | (with_reducible assumption) | (with_reducible refine Below.trans ?_ (Below.mono (by assumption) (by first | omega | (· simp) | (· (simp; omega))))) | (with_reducible refine Below.trans ?_ (Kp.below (by assumption) (by first | omega | (· simp) | (· (simp; omega))) (by first | omega | (· simp) | (· (simp; omega)))))))))) :
    Calls Tryd.prog f #[.string s] w fun r w' => ∃ x : E, r = .returned (.tuple #[x.val, .int .i64 (lexoD1 s)]) ∧ x.d = lexoD s ∧ x.Ty Tryd.prog 24 ∧ x.Ho w' w.heap.size w'.heap.size ∧ x.fp.Nodup ∧ Below w.heap.size w w' :=
  zf16 (t := 24) (D := lexE s) rfl hc (zo19 s) (us := [.string s]) (VRL_cons (VR_str s) VRL_nil)
theorem zr8 {s : ByteArray} : (lexoD s).sz ≤ 1073741824 := by
  unfold lexoD
  rw [E.sz_d]
  exact zp19 s
theorem zm15 (s : ByteArray) (w : World) (hs : s.size ≤ 1048576) (gw : Gl w := by (first | assumption | exact gl_any _ | exact Gl.below_ gl0 (by exact (by repeat (first | (with_reducible refine Below.setCell ?_ (by first | omega | (· simp) | (· (simp; omega))) _) | (with_reducible refine Below.alloc ?_ (by first | omega | (· simp) | (· (simp; omega))) _) | (with_reducible refine Below.drew ?_) | (with_reducible refine zy3 ?_ _) | (with_reducible exact Below.refl _ _) | (with_reducible assumption) | (with_reducible refine Below.trans ?_ (Below.mono (by assumption) (by first | omega | (· simp) | (· (simp; omega))))) | (with_reducible refine Below.trans ?_ (Kp.below (by assumption) (by first | omega | (· simp) | (· (simp; omega))) (by first | omega | (· simp) | (· (simp; omega)))))))))) :
    Calls Tryd.prog 13 #[.string s] w fun r w' => ∃ x : E, r = .returned (.tuple #[x.val, .int .i64 (lexoD1 s)]) ∧ Hid (x.d = lexoD s) ∧ x.Ty Tryd.prog 24 ∧ x.Re w' w.heap.size w'.heap.size ∧ Below w.heap.size w w' :=
  (zv11 (f := 13) (zw14 hs) w gw).mono fun _ _ ⟨x, h1, h2, h3, h4, h5, h6⟩ => ⟨x, h1, h2, h3, h4.re, h6⟩
theorem zs9 (s : ByteArray) (w : World) (hs : s.size ≤ 1048576) (gw : Gl w := by (first | assumption | exact gl_any _ | exact Gl.below_ gl0 (by exact (by repeat (first | (with_reducible refine Below.setCell ?_ (by first | omega | (· simp) | (· (simp; omega))) _) | (with_reducible refine Below.alloc ?_ (by first | omega | (· simp) | (· (simp; omega))) _) | (with_reducible refine Below.drew ?_) | (with_reducible refine zy3 ?_ _) | (with_reducible exact Below.refl _ _) | (with_reducible assumption) | (with_reducible refine Below.trans ?_ (Below.mono (by assumption) (by first | omega | (· simp) | (· (simp; omega))))) | (with_reducible refine Below.trans ?_ (Kp.below (by assumption) (by first | omega | (· simp) | (· (simp; omega))) (by first | omega | (· simp) | (· (simp; omega)))))))))) :
    Calls Tryd.prog 8 #[.string s] w fun r w' => ∃ x : E, r = .returned (.tuple #[x.val, .int .i64 (lexoD1 s)]) ∧ Hid (x.d = lexoD s) ∧ x.Ty Tryd.prog 24 ∧ x.Ho w' w.heap.size w'.heap.size ∧ x.fp.Nodup ∧ Below w.heap.size w w' :=
  (zv11 (f := 8) (zj15 hs) w gw).mono fun _ _ ⟨x, h1, h2, h3, h4, h5, h6⟩ => ⟨x, h1, h2, h3, h4, h5, h6⟩
set_option maxRecDepth 100000 in
set_option maxHeartbeats 8000000 in
theorem zq19 (w : World) (a0 : ByteArray) (ga0 : a0.size ≤ 9223372036854775807) (gl0 : Gl w) :
    Calls Tryd.prog 4 #[.string a0] w fun e w' => e = .returned (.bool true) ∧ Below w.heap.size w w' := by
  change Calls _ _ #[.string a0] w _
  by_cases hsz0 : (1048576 : Int) < a0.size
  · go_enter Tryd.func4, Tryd.ntmps4
    go_wp2
    go_ret
    exact ⟨rfl, by exact (by repeat (first | (with_reducible refine Below.setCell ?_ (by first | omega | (· simp) | (· (simp; omega))) _) | (with_reducible refine Below.alloc ?_ (by first | omega | (· simp) | (· (simp; omega))) _) | (with_reducible refine Below.drew ?_) | (with_reducible refine zy3 ?_ _) | (with_reducible exact Below.refl _ _) | (with_reducible assumption) | (with_reducible refine Below.trans ?_ (Below.mono (by assumption) (by first | omega | (· simp) | (· (simp; omega))))) | (with_reducible refine Below.trans ?_ (Kp.below (by assumption) (by first | omega | (· simp) | (· (simp; omega))) (by first | omega | (· simp) | (· (simp; omega)))))))⟩
  go_enter Tryd.func4, Tryd.ntmps4
  go_upto_region 3 with fail
  go_cut [3, 4] (fun s3 s4 wx => ∃ (x1a_A : Option Addr) (x1a_c : Nat) (x1a_l : List E), s3 = .slice x1a_A x1a_l.length x1a_c ∧ s4 = .int .i64 (lexoD1 a0) ∧ Hid ((E.lst 3 31 x1a_A x1a_c x1a_l).Ty Tryd.prog 24) ∧ Hid ((E.lst 3 31 x1a_A x1a_c x1a_l).d = lexoD a0) ∧ (E.lst 3 31 x1a_A x1a_c x1a_l).Re wx w.heap.size wx.heap.size ∧ Below w.heap.size w wx)
  case first =>
    go_wp2_with fail
    go_at_call 13
    refine (zm15 a0 _ (by omega)).mono ?_; rintro e1 w1 ⟨x1a, e1h, HD1a, ht1a, hi1a, hb1⟩; have HD1a : Hid (x1a.d = lexoD a0) := (by have h := HD1a.out; exact h); have HT1a := Lib.hid ht1a; obtain ⟨x1a_A, x1a_c, x1a_l, rfl, -, -⟩ := ht1a.lst_ Tryd.underlying24 (k := 3) (by kernel_rfl); obtain rfl : e1 = .returned (.tuple #[.slice x1a_A x1a_l.length x1a_c, .int .i64 (lexoD1 a0)]) := e1h; clear ht1a; have hz1 := hb1.size; (try simp only [World.size_alloc, World.size_drew, World.heap_drewN, World.size_setCell] at hz1)
    go_wp2_with fail
    go_meet
    refine ⟨x1a_A, x1a_c, x1a_l, rfl, rfl, ?_, ?_, ?_, ?_⟩
    · exact HT1a
    · exact HD1a
    · refine E.Re.fin hi1a (fun hh => ?_) ?_ ?_
      · (repeat (first | (with_reducible assumption) | (with_reducible refine E.Re.drew ?_) | (with_reducible refine E.Re.drewN ?_ _) | (with_reducible refine E.Re.alloc ?_ ?_ _) | (with_reducible refine E.Re.setAny ?_ ?_ _) | (refine E.Re.below ?_ (by with_reducible assumption) ?_) | (first | omega | (dsimp only; omega) | (simp only [World.size_alloc, World.size_drew, World.heap_drewN, World.size_setCell]; omega) | (simp; done) | (simp; omega))))
      · (first | omega | (dsimp only; omega) | (simp only [World.size_alloc, World.size_drew, World.heap_drewN, World.size_setCell]; omega) | (simp; done) | (simp; omega))
      · (first | omega | (dsimp only; omega) | (simp only [World.size_alloc, World.size_drew, World.heap_drewN, World.size_setCell]; omega) | (simp; done) | (simp; omega))
    · exact (by repeat (first | (with_reducible refine Below.setCell ?_ (by first | omega | (· simp) | (· (simp; omega))) _) | (with_reducible refine Below.alloc ?_ (by first | omega | (· simp) | (· (simp; omega))) _) | (with_reducible refine Below.drew ?_) | (with_reducible refine zy3 ?_ _) | (with_reducible exact Below.refl _ _) | (with_reducible assumption) | (with_reducible refine Below.trans ?_ (Below.mono (by assumption) (by first | omega | (· simp) | (· (simp; omega))))) | (with_reducible refine Below.trans ?_ (Kp.below (by assumption) (by first | omega | (· simp) | (· (simp; omega))) (by first | omega | (· simp) | (· (simp; omega)))))))
  case rest =>
    obtain ⟨x1a_A, x1a_c, x1a_l, rfl, rfl, HT1a, HD1a, I1_1a, hb1⟩ := hcut
    obtain ⟨W1, hWeq⟩ : ∃ W : World, W = wc := ⟨_, rfl⟩
    subst hWeq
    have hs1 := hb1.size
    have hB1 : Below w.heap.size w W1 := hb1
    go_upto_region 4 with fail
    go_cut [5, 6] (fun s5 s6 wx => ∃ (x2a_A : Option Addr) (x2a_c : Nat) (x2a_l : List E), s5 = .slice x2a_A x2a_l.length x2a_c ∧ s6 = .int .i64 (lexoD1 a0) ∧ Hid ((E.lst 3 31 x2a_A x2a_c x2a_l).Ty Tryd.prog 24) ∧ Hid ((E.lst 3 31 x2a_A x2a_c x2a_l).d = lexoD a0) ∧ Hid ((E.lst 3 31 x2a_A x2a_c x2a_l).Ho wx W1.heap.size wx.heap.size) ∧ Hid (E.lst 3 31 x2a_A x2a_c x2a_l).fp.Nodup ∧ Below W1.heap.size W1 wx)
    case first =>
      have hwW := hB1.size
      clear hs1
      clear I1_1a
      go_wp2_with fail
      go_at_call 8
      refine (zs9 a0 _ (by omega)).mono ?_; rintro e2 w2 ⟨x2a, e2h, HD2a, ht2a, ho2a, hn2a, hb2⟩; have HD2a : Hid (x2a.d = lexoD a0) := (by have h := HD2a.out; exact h); have HT2a := Lib.hid ht2a; obtain ⟨x2a_A, x2a_c, x2a_l, rfl, -, -⟩ := ht2a.lst_ Tryd.underlying24 (k := 3) (by kernel_rfl); obtain rfl : e2 = .returned (.tuple #[.slice x2a_A x2a_l.length x2a_c, .int .i64 (lexoD1 a0)]) := e2h; have HO2a := Lib.hid ho2a; have HN2a := Lib.hid hn2a; clear ho2a hn2a ht2a; have hz2 := hb2.size; (try simp only [World.size_alloc, World.size_drew, World.heap_drewN, World.size_setCell] at hz2)
      go_wp2_with fail
      go_meet
      refine ⟨x2a_A, x2a_c, x2a_l, rfl, rfl, ?_, ?_, ?_, ?_, ?_⟩
      · exact HT2a
      · exact HD2a
      · refine E.Ho.fin HO2a.out (fun hh => ?_) ?_ ?_
        · (repeat (first | (with_reducible assumption) | (with_reducible refine E.Ho.drew ?_) | (with_reducible refine E.Ho.drewN ?_ _) | (with_reducible refine E.Ho.alloc ?_ ?_ _) | (with_reducible refine E.Ho.setAny ?_ ?_ _) | (refine E.Ho.below ?_ (by with_reducible assumption) ?_) | (first | omega | (dsimp only; omega) | (simp only [World.size_alloc, World.size_drew, World.heap_drewN, World.size_setCell]; omega) | (simp; done) | (simp; omega))))
        · (first | omega | (dsimp only; omega) | (simp only [World.size_alloc, World.size_drew, World.heap_drewN, World.size_setCell]; omega) | (simp; done) | (simp; omega))
        · (first | omega | (dsimp only; omega) | (simp only [World.size_alloc, World.size_drew, World.heap_drewN, World.size_setCell]; omega) | (simp; done) | (simp; omega))
      · exact HN2a
      · exact (by repeat (first | (with_reducible refine Below.setCell ?_ (by first | omega | (· simp) | (· (simp; omega))) _) | (with_reducible refine Below.alloc ?_ (by first | omega | (· simp) | (· (simp; omega))) _) | (with_reducible refine Below.drew ?_) | (with_reducible refine zy3 ?_ _) | (with_reducible exact Below.refl _ _) | (with_reducible assumption) | (with_reducible refine Below.trans ?_ (Below.mono (by assumption) (by first | omega | (· simp) | (· (simp; omega))))) | (with_reducible refine Below.trans ?_ (Kp.below (by assumption) (by first | omega | (· simp) | (· (simp; omega))) (by first | omega | (· simp) | (· (simp; omega)))))))
    case rest =>
      obtain ⟨x2a_A, x2a_c, x2a_l, rfl, rfl, HT2a, HD2a, HO2_2a, HN2a, hb2⟩ := hcut
      obtain ⟨W2, hWeq⟩ : ∃ W : World, W = wc := ⟨_, rfl⟩
      subst hWeq
      have hs2 := hb2.size
      have I2_1a := I1_1a.below hb2 (by omega)
      clear I1_1a
      have hB2 : Below w.heap.size w W2 := hB1.trans (hb2.mono (by omega))
      go_upto_region 5 with fail
      go_cut [32] (fun s32 wx => s32 = .bool false ∧ Below W2.heap.size W2 wx)
      case first =>
        have hwW := hB2.size
        have hiW1a : W1.heap.size ≤ W2.heap.size := by omega
        have hiW2a : W2.heap.size ≤ W2.heap.size := by omega
        go_wp2_with fail
        go_at_call 14
        refine (zh6 HT2a.out HT1a.out ((show (E.lst 3 31 x2a_A x2a_c x2a_l).d = lexoD a0 from HD2a.out).trans (show (E.lst 3 31 x1a_A x1a_c x1a_l).d = lexoD a0 from HD1a.out).symm) _ (by have h : (E.lst 3 31 x2a_A x2a_c x2a_l).In W2 := HO2_2a.out.inn; exact (by repeat (first | (with_reducible assumption) | (with_reducible refine E.In.drew ?_) | (with_reducible refine E.In.drewN ?_ _) | (with_reducible refine E.In.alloc ?_ _) | (refine E.In.below ?_ (by with_reducible assumption) ?_) | omega | (· simp) | (· (simp; omega))))) (by have h : (E.lst 3 31 x1a_A x1a_c x1a_l).In W2 := I2_1a.inn (by omega); exact (by repeat (first | (with_reducible assumption) | (with_reducible refine E.In.drew ?_) | (with_reducible refine E.In.drewN ?_ _) | (with_reducible refine E.In.alloc ?_ _) | (refine E.In.below ?_ (by with_reducible assumption) ?_) | omega | (· simp) | (· (simp; omega)))))).mono ?_; rintro e w3 ⟨rfl, hb3⟩; have hz3 := hb3.size; (try simp only [World.size_alloc, World.size_drew, World.heap_drewN, World.size_setCell] at hz3)
        go_wp2_with fail
        go_meet
        refine ⟨rfl, ?_⟩
        · exact (by repeat (first | (with_reducible refine Below.setCell ?_ (by first | omega | (· simp) | (· (simp; omega))) _) | (with_reducible refine Below.alloc ?_ (by first | omega | (· simp) | (· (simp; omega))) _) | (with_reducible refine Below.drew ?_) | (with_reducible refine zy3 ?_ _) | (with_reducible exact Below.refl _ _) | (with_reducible assumption) | (with_reducible refine Below.trans ?_ (Below.mono (by assumption) (by first | omega | (· simp) | (· (simp; omega))))) | (with_reducible refine Below.trans ?_ (Kp.below (by assumption) (by first | omega | (· simp) | (· (simp; omega))) (by first | omega | (· simp) | (· (simp; omega)))))))
      case rest =>
        obtain ⟨rfl, hb3⟩ := hcut
        obtain ⟨W3, hWeq⟩ : ∃ W : World, W = wc := ⟨_, rfl⟩
        subst hWeq
        have hs3 := hb3.size
        have I3_1a := I2_1a.below hb3 (by omega)
        clear I2_1a
        have HO3_2a := Lib.hid (HO2_2a.out.below hb3 (by omega))
        clear HO2_2a
        have hB3 : Below w.heap.size w W3 := hB2.trans (hb3.mono (by omega))
        go_upto_region 8 with fail
        go_cut [7] (fun s7 wx => s7 = .int .i64 (1 + ((E.lst 3 31 x2a_A x2a_c x2a_l).cnt : Int)) ∧ Hid (((E.lst 3 31 x2a_A x2a_c x2a_l).mk0 1).Ho wx W1.heap.size W2.heap.size) ∧ Hid (Fr (E.lst 3 31 x2a_A x2a_c x2a_l).fp W3 wx))
        case first =>
          have hwW := hB3.size
          have hiW2a : W2.heap.size ≤ W3.heap.size := by omega
          clear hs1 hs3
          clear I3_1a
          go_wp2_with fail
          go_at_call 15
          refine (zm7 HT2a.out _ _ _ _ HO3_2a.out HN2a.out (by omega) (by omega) (by have := zp12 HT2a.out HD2a (zr8); omega)).mono ?_; rintro e w4 ⟨rfl, HOm4, hf4⟩
          go_wp2_with fail
          go_meet
          refine ⟨rfl, ?_, ?_⟩
          · exact HOm4
          · exact hf4
        case rest =>
          obtain ⟨rfl, HOm4_2a, hF4⟩ := hcut
          obtain ⟨W4, hWeq⟩ : ∃ W : World, W = wc := ⟨_, rfl⟩
          subst hWeq
          have hs4 := hF4.out.size
          have I4_1a := I3_1a.kp (lo' := W1.heap.size) (hi' := W2.heap.size) (hF4.out.kp (fun b hb => by have := HO3_2a.out.lt b hb; omega)) (.inl (by omega))
          clear I3_1a
          have hB4 : Below w.heap.size w W4 := hB3.trans (hF4.out.below (fun b hb => by have := HO3_2a.out.lt b hb; omega) (by omega))
          go_upto_region 10 with fail
          go_cut [8] (fun s8 wx => s8 = .int .i64 (1 + ((E.lst 3 31 x2a_A x2a_c x2a_l).cnt : Int)) ∧ Below W4.heap.size W4 wx)
          case first =>
            have hwW := hB4.size
            have hiW2a : W2.heap.size ≤ W4.heap.size := by omega
            clear hs1 hs3 hs4
            clear I4_1a
            go_wp2_with fail
            go_at_call 16
            refine (zo5 HT2a.out _ _ (by have h : ((E.lst 3 31 x2a_A x2a_c x2a_l).mk0 1).In W4 := HOm4_2a.out.inn; exact (by repeat (first | (with_reducible assumption) | (with_reducible refine E.In.drew ?_) | (with_reducible refine E.In.drewN ?_ _) | (with_reducible refine E.In.alloc ?_ _) | (refine E.In.below ?_ (by with_reducible assumption) ?_) | omega | (· simp) | (· (simp; omega))))) (by omega) (by have := zp12 HT2a.out HD2a (zr8); omega)).mono ?_; rintro e w5 ⟨rfl, hb5⟩
            go_wp2_with fail
            go_meet
            refine ⟨rfl, ?_⟩
            · exact (by repeat (first | (with_reducible refine Below.setCell ?_ (by first | omega | (· simp) | (· (simp; omega))) _) | (with_reducible refine Below.alloc ?_ (by first | omega | (· simp) | (· (simp; omega))) _) | (with_reducible refine Below.drew ?_) | (with_reducible refine zy3 ?_ _) | (with_reducible exact Below.refl _ _) | (with_reducible assumption) | (with_reducible refine Below.trans ?_ (Below.mono (by assumption) (by first | omega | (· simp) | (· (simp; omega))))) | (with_reducible refine Below.trans ?_ (Kp.below (by assumption) (by first | omega | (· simp) | (· (simp; omega))) (by first | omega | (· simp) | (· (simp; omega)))))))
          case rest =>
            obtain ⟨rfl, hb5⟩ := hcut
            obtain ⟨W5, hWeq⟩ : ∃ W : World, W = wc := ⟨_, rfl⟩
            subst hWeq
            have hs5 := hb5.size
            have I5_1a := I4_1a.below hb5 (by omega)
            clear I4_1a
            have HOm5_2a := Lib.hid (HOm4_2a.out.below hb5 (by omega))
            clear HOm4_2a
            have hB5 : Below w.heap.size w W5 := hB4.trans (hb5.mono (by omega))
            go_upto_region 15 with fail
            go_cut [9, 10] (fun s9 s10 wx => ∃ (x6a_A : Option Addr) (x6a_c : Nat) (x6a_l : List E), s9 = .slice x6a_A x6a_l.length x6a_c ∧ s10 = .int .i64 (lexoD1 a0) ∧ Hid ((E.lst 3 31 x6a_A x6a_c x6a_l).Ty Tryd.prog 24) ∧ Hid ((E.lst 3 31 x6a_A x6a_c x6a_l).d = lexoD a0) ∧ Hid ((E.lst 3 31 x6a_A x6a_c x6a_l).Ho wx W5.heap.size wx.heap.size) ∧ Hid (E.lst 3 31 x6a_A x6a_c x6a_l).fp.Nodup ∧ Below W5.heap.size W5 wx)
            case first =>
              have hwW := hB5.size
              clear hs1 hs2 hs3 hs4 hs5
              clear I5_1a HOm5_2a
              go_wp2_with fail
              go_at_call 8
              refine (zs9 a0 _ (by omega)).mono ?_; rintro e6 w6 ⟨x6a, e6h, HD6a, ht6a, ho6a, hn6a, hb6⟩; have HD6a : Hid (x6a.d = lexoD a0) := (by have h := HD6a.out; exact h); have HT6a := Lib.hid ht6a; obtain ⟨x6a_A, x6a_c, x6a_l, rfl, -, -⟩ := ht6a.lst_ Tryd.underlying24 (k := 3) (by kernel_rfl); obtain rfl : e6 = .returned (.tuple #[.slice x6a_A x6a_l.length x6a_c, .int .i64 (lexoD1 a0)]) := e6h; have HO6a := Lib.hid ho6a; have HN6a := Lib.hid hn6a; clear ho6a hn6a ht6a; have hz6 := hb6.size; (try simp only [World.size_alloc, World.size_drew, World.heap_drewN, World.size_setCell] at hz6)
              go_wp2_with fail
              go_meet
              refine ⟨x6a_A, x6a_c, x6a_l, rfl, rfl, ?_, ?_, ?_, ?_, ?_⟩
              · exact HT6a
              · exact HD6a
              · refine E.Ho.fin HO6a.out (fun hh => ?_) ?_ ?_
                · (repeat (first | (with_reducible assumption) | (with_reducible refine E.Ho.drew ?_) | (with_reducible refine E.Ho.drewN ?_ _) | (with_reducible refine E.Ho.alloc ?_ ?_ _) | (with_reducible refine E.Ho.setAny ?_ ?_ _) | (refine E.Ho.below ?_ (by with_reducible assumption) ?_) | (first | omega | (dsimp only; omega) | (simp only [World.size_alloc, World.size_drew, World.heap_drewN, World.size_setCell]; omega) | (simp; done) | (simp; omega))))
                · (first | omega | (dsimp only; omega) | (simp only [World.size_alloc, World.size_drew, World.heap_drewN, World.size_setCell]; omega) | (simp; done) | (simp; omega))
                · (first | omega | (dsimp only; omega) | (simp only [World.size_alloc, World.size_drew, World.heap_drewN, World.size_setCell]; omega) | (simp; done) | (simp; omega))
              · exact HN6a
              · exact (by repeat (first | (with_reducible refine Below.setCell ?_ (by first | omega | (· simp) | (· (simp; omega))) _) | (with_reducible refine Below.alloc ?_ (by first | omega | (· simp) | (· (simp; omega))) _) | (with_reducible refine Below.drew ?_) | (with_reducible refine zy3 ?_ _) | (with_reducible exact Below.refl _ _) | (with_reducible assumption) | (with_reducible refine Below.trans ?_ (Below.mono (by assumption) (by first | omega | (· simp) | (· (simp; omega))))) | (with_reducible refine Below.trans ?_ (Kp.below (by assumption) (by first | omega | (· simp) | (· (simp; omega))) (by first | omega | (· simp) | (· (simp; omega)))))))
            case rest =>
              obtain ⟨x6a_A, x6a_c, x6a_l, rfl, rfl, HT6a, HD6a, HO6_6a, HN6a, hb6⟩ := hcut
              obtain ⟨W6, hWeq⟩ : ∃ W : World, W = wc := ⟨_, rfl⟩
              subst hWeq
              have hs6 := hb6.size
              have I6_1a := I5_1a.below hb6 (by omega)
              clear I5_1a
              have HOm6_2a := Lib.hid (HOm5_2a.out.below hb6 (by omega))
              clear HOm5_2a
              have hB6 : Below w.heap.size w W6 := hB5.trans (hb6.mono (by omega))
              go_upto_region 16 with fail
              go_cut [57] (fun s57 wx => s57 = .bool false ∧ Below W6.heap.size W6 wx)
              case first =>
                have hwW := hB6.size
                have hiW1a : W1.heap.size ≤ W6.heap.size := by omega
                have hiW6a : W6.heap.size ≤ W6.heap.size := by omega
                clear hs2 hs3 hs4 hs5
                clear HOm6_2a
                go_wp2_with fail
                go_at_call 14
                refine (zh6 HT6a.out HT1a.out ((show (E.lst 3 31 x6a_A x6a_c x6a_l).d = lexoD a0 from HD6a.out).trans (show (E.lst 3 31 x1a_A x1a_c x1a_l).d = lexoD a0 from HD1a.out).symm) _ (by have h : (E.lst 3 31 x6a_A x6a_c x6a_l).In W6 := HO6_6a.out.inn; exact (by repeat (first | (with_reducible assumption) | (with_reducible refine E.In.drew ?_) | (with_reducible refine E.In.drewN ?_ _) | (with_reducible refine E.In.alloc ?_ _) | (refine E.In.below ?_ (by with_reducible assumption) ?_) | omega | (· simp) | (· (simp; omega))))) (by have h : (E.lst 3 31 x1a_A x1a_c x1a_l).In W6 := I6_1a.inn (by omega); exact (by repeat (first | (with_reducible assumption) | (with_reducible refine E.In.drew ?_) | (with_reducible refine E.In.drewN ?_ _) | (with_reducible refine E.In.alloc ?_ _) | (refine E.In.below ?_ (by with_reducible assumption) ?_) | omega | (· simp) | (· (simp; omega)))))).mono ?_; rintro e w7 ⟨rfl, hb7⟩; have hz7 := hb7.size; (try simp only [World.size_alloc, World.size_drew, World.heap_drewN, World.size_setCell] at hz7)
                go_wp2_with fail
                go_meet
                refine ⟨rfl, ?_⟩
                · exact (by repeat (first | (with_reducible refine Below.setCell ?_ (by first | omega | (· simp) | (· (simp; omega))) _) | (with_reducible refine Below.alloc ?_ (by first | omega | (· simp) | (· (simp; omega))) _) | (with_reducible refine Below.drew ?_) | (with_reducible refine zy3 ?_ _) | (with_reducible exact Below.refl _ _) | (with_reducible assumption) | (with_reducible refine Below.trans ?_ (Below.mono (by assumption) (by first | omega | (· simp) | (· (simp; omega))))) | (with_reducible refine Below.trans ?_ (Kp.below (by assumption) (by first | omega | (· simp) | (· (simp; omega))) (by first | omega | (· simp) | (· (simp; omega)))))))
              case rest =>
                obtain ⟨rfl, hb7⟩ := hcut
                obtain ⟨W7, hWeq⟩ : ∃ W : World, W = wc := ⟨_, rfl⟩
                subst hWeq
                have hs7 := hb7.size
                have I7_1a := I6_1a.below hb7 (by omega)
                clear I6_1a
                have HOm7_2a := Lib.hid (HOm6_2a.out.below hb7 (by omega))
                clear HOm6_2a
                have HO7_6a := Lib.hid (HO6_6a.out.below hb7 (by omega))
                clear HO6_6a
                have hB7 : Below w.heap.size w W7 := hB6.trans (hb7.mono (by omega))
                go_upto_region 19 with fail
                go_cut [8] (fun s8 wx => s8 = .int .i64 (1 + ((E.lst 3 31 x2a_A x2a_c x2a_l).cnt : Int)) ∧ Below W7.heap.size W7 wx)
                case first =>
                  have hwW := hB7.size
                  have hiW2a : W2.heap.size ≤ W7.heap.size := by omega
                  clear hs1 hs3 hs4 hs5 hs6 hs7
                  clear I7_1a HO7_6a
                  go_wp2_with fail
                  go_at_call 16
                  refine (zo5 HT2a.out _ _ (by have h : ((E.lst 3 31 x2a_A x2a_c x2a_l).mk0 1).In W7 := HOm7_2a.out.inn; exact (by repeat (first | (with_reducible assumption) | (with_reducible refine E.In.drew ?_) | (with_reducible refine E.In.drewN ?_ _) | (with_reducible refine E.In.alloc ?_ _) | (refine E.In.below ?_ (by with_reducible assumption) ?_) | omega | (· simp) | (· (simp; omega))))) (by omega) (by have := zp12 HT2a.out HD2a (zr8); omega)).mono ?_; rintro e w8 ⟨rfl, hb8⟩
                  go_wp2_with fail
                  go_meet
                  refine ⟨rfl, ?_⟩
                  · exact (by repeat (first | (with_reducible refine Below.setCell ?_ (by first | omega | (· simp) | (· (simp; omega))) _) | (with_reducible refine Below.alloc ?_ (by first | omega | (· simp) | (· (simp; omega))) _) | (with_reducible refine Below.drew ?_) | (with_reducible refine zy3 ?_ _) | (with_reducible exact Below.refl _ _) | (with_reducible assumption) | (with_reducible refine Below.trans ?_ (Below.mono (by assumption) (by first | omega | (· simp) | (· (simp; omega))))) | (with_reducible refine Below.trans ?_ (Kp.below (by assumption) (by first | omega | (· simp) | (· (simp; omega))) (by first | omega | (· simp) | (· (simp; omega)))))))
                case rest =>
                  obtain ⟨rfl, hb8⟩ := hcut
                  obtain ⟨W8, hWeq⟩ : ∃ W : World, W = wc := ⟨_, rfl⟩
                  subst hWeq
                  have hs8 := hb8.size
                  have I8_1a := I7_1a.below hb8 (by omega)
                  clear I7_1a
                  have HOm8_2a := Lib.hid (HOm7_2a.out.below hb8 (by omega))
                  clear HOm7_2a
                  have HO8_6a := Lib.hid (HO7_6a.out.below hb8 (by omega))
                  clear HO7_6a
                  have hB8 : Below w.heap.size w W8 := hB7.trans (hb8.mono (by omega))
                  go_wp2
                  go_ret
                  exact ⟨rfl, hB8⟩
end Go.Proofs.YtnlgmojciplnoaaDoor
