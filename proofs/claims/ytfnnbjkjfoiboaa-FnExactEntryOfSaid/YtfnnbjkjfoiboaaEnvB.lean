/- Tables and environments: words; sz, to, eq. -/
import Derived.Test.YtfnnbjkjfoiboaaEnvA
namespace Go.Proofs.Ytfnnbjkjfoiboaa
open Go.RowKit

structure GTab where
  name : ByteArray
  A : Option Addr
  c : Nat
  l : List GEntry
def encTab (t : GTab) : List Value := [.string t.name, .slice t.A t.l.length t.c]
theorem encTab_len (t : GTab) : (encTab t).length = 2 := rfl
theorem encTab_one (t : GTab) (u : Value) (h : u ∈ encTab t) : u.oneCell' = true := by
  simp only [encTab, List.mem_cons, List.not_mem_nil, or_false] at h
  rcases h with rfl | rfl <;> rfl
/-- What a table says, wherever it lies. -/
def GTab.d (t : GTab) : ByteArray × List GEntry := (t.name, t.l)
def SameT (ts us : List GTab) : Prop := ts.map GTab.d = us.map GTab.d
theorem SameT.len {ts us : List GTab} (h : SameT ts us) : ts.length = us.length := by have := congrArg List.length h; simpa using this
theorem SameT.at_ {ts us : List GTab} (h : SameT ts us) {i : Nat} (hi : i < ts.length) : ∃ h' : i < us.length, us[i].name = ts[i].name ∧ us[i].l = ts[i].l := by
  have h' : i < us.length := by have := h.len; omega
  refine ⟨h', ?_⟩
  have e : (ts.map GTab.d)[i]'(by simpa using hi) = (us.map GTab.d)[i]'(by simpa using h') := by
    have h2 : ts.map GTab.d = us.map GTab.d := h
    simp only [h2]
  simp only [List.getElem_map] at e
  exact ⟨(congrArg Prod.fst e).symm, (congrArg Prod.snd e).symm⟩
/-- The inner slices of tables. -/
def InT (w : World) (lo hi : Nat) (ts : List GTab) : Prop := ∀ t ∈ ts, Sl w lo hi 4 encEntry (.slice t.A t.l.length t.c) t.l
section
variable {w w' : World} {lo hi lo' hi' : Nat} {ts : List GTab}
theorem InT.below {B : Nat} (h : InT w lo hi ts) (hb : Below B w w') (hB : hi ≤ B) : InT w' lo hi ts := fun t ht => (h t ht).below hb hB
theorem InT.kp (h : InT w lo hi ts) (hb : Kp lo' hi' w w') (hB : hi ≤ lo' ∨ hi' ≤ lo) : InT w' lo hi ts := fun t ht => (h t ht).kp hb hB
theorem InT.drew (h : InT w lo hi ts) : InT w.drew lo hi ts := fun t ht => (h t ht).drew
theorem InT.drewN (h : InT w lo hi ts) (n : Nat) : InT (w.drewN n) lo hi ts := fun t ht => (h t ht).drewN n
theorem InT.alloc (h : InT w lo hi ts) (hB : hi ≤ w.heap.size) (o : Obj) : InT (w.alloc o) lo hi ts := fun t ht => (h t ht).alloc hB o
theorem InT.setCell (h : InT w lo hi ts) {p : Addr} (hB : hi ≤ p.block) (u : Value) : InT (w.setCell p u) lo hi ts := fun t ht => (h t ht).setCell hB u
theorem InT.wider (h : InT w lo hi ts) (h1 : lo' ≤ lo) (h2 : hi ≤ hi') : InT w lo' hi' ts := fun t ht => (h t ht).wider h1 h2
end
def goodTab (t : GTab) : Prop := t.name.size ≤ maxLen ∧ ∀ d ∈ t.l, goodEntry d
set_option maxHeartbeats 1000000 in
theorem szTable_ex (t : GTab) (left : Int) (w : World) (hi : Rd w 4 encEntry (.slice t.A t.l.length t.c) t.l) (hg : goodTab t) (h0 : 0 ≤ left) (h1 : left ≤ 1048576) :
    Calls Try.prog 149 #[.agg #[.string t.name, .slice t.A t.l.length t.c], .int .i64 left] w fun e w' => ∃ r, e = .returned (.int .i64 r) ∧ r ≤ left ∧ (0 ≤ r → t.l.length ≤ 1048576) ∧ Below w.heap.size w w' := by
  have hs0 : t.name.size ≤ 9223372036854775807 := by have h := hg.1; unfold maxLen at h; exact h
  have hi1 : Rd (w.alloc (.cells #[.string t.name, .slice t.A t.l.length t.c] 176)) 4 encEntry (.slice t.A t.l.length t.c) t.l := (by repeat (first | (with_reducible assumption) | (with_reducible refine Rd.drew ?_) | (with_reducible refine Rd.drewN ?_ _) | (with_reducible refine Rd.alloc ?_ _) | (exact Own.rd (fun _ => rfl) (by with_reducible assumption)) | (exact Sl.rd (by with_reducible assumption) (by first | omega | (· simp) | (· (simp; omega)))) | (refine Rd.below ?_ (by with_reducible assumption) ?_) | omega | (· simp) | (· (simp; omega))))
  go_enter Try.func149, Try.ntmps149
  by_cases hn1 : left - t.name.size < 0
  · go_wp2
    go_ret
    exact ⟨-1, rfl, by omega, fun h => absurd h (by omega), by exact (by repeat (first | (with_reducible refine Below.setCell ?_ (by first | omega | (· simp) | (· (simp; omega))) _) | (with_reducible refine Below.alloc ?_ (by first | omega | (· simp) | (· (simp; omega))) _) | (with_reducible refine Below.drew ?_) | (with_reducible refine bdrewN ?_ _) | (with_reducible exact Below.refl _ _) | (with_reducible assumption) | (with_reducible refine Below.trans ?_ (Below.mono (by assumption) (by first | omega | (· simp) | (· (simp; omega))))) | (with_reducible refine Below.trans ?_ (Kp.below (by assumption) (by first | omega | (· simp) | (· (simp; omega))) (by first | omega | (· simp) | (· (simp; omega)))))))⟩
  go_wp2_with fail
  go_at_call 168
  refine (szEntryS_ex _ _ _ t.l _ _ hi1 hg.2 (by omega) (by omega)).mono ?_; rintro e w2 ⟨r2, rfl, hr2, hbd2, hb2⟩
  by_cases hn2 : r2 < 0
  · go_wp2
    go_ret
    exact ⟨-1, rfl, by omega, fun h => absurd h (by omega), by exact (by repeat (first | (with_reducible refine Below.setCell ?_ (by first | omega | (· simp) | (· (simp; omega))) _) | (with_reducible refine Below.alloc ?_ (by first | omega | (· simp) | (· (simp; omega))) _) | (with_reducible refine Below.drew ?_) | (with_reducible refine bdrewN ?_ _) | (with_reducible exact Below.refl _ _) | (with_reducible assumption) | (with_reducible refine Below.trans ?_ (Below.mono (by assumption) (by first | omega | (· simp) | (· (simp; omega))))) | (with_reducible refine Below.trans ?_ (Kp.below (by assumption) (by first | omega | (· simp) | (· (simp; omega))) (by first | omega | (· simp) | (· (simp; omega)))))))⟩
  go_wp2
  go_ret
  exact ⟨_, rfl, by omega, hbd2, by exact (by repeat (first | (with_reducible refine Below.setCell ?_ (by first | omega | (· simp) | (· (simp; omega))) _) | (with_reducible refine Below.alloc ?_ (by first | omega | (· simp) | (· (simp; omega))) _) | (with_reducible refine Below.drew ?_) | (with_reducible refine bdrewN ?_ _) | (with_reducible exact Below.refl _ _) | (with_reducible assumption) | (with_reducible refine Below.trans ?_ (Below.mono (by assumption) (by first | omega | (· simp) | (· (simp; omega))))) | (with_reducible refine Below.trans ?_ (Kp.below (by assumption) (by first | omega | (· simp) | (· (simp; omega))) (by first | omega | (· simp) | (· (simp; omega)))))))⟩
set_option maxHeartbeats 1000000 in
theorem szTableS_ex (A : Option Addr) (ln c : Nat) (ts : List GTab) (left : Int) (w : World) (hs : Rd w 2 encTab (.slice A ln c) ts) (hi : InT w 0 w.heap.size ts) (hg : ∀ t ∈ ts, goodTab t) (h0 : 0 ≤ left) (h1 : left ≤ 1048576) :
    Calls Try.prog 95 #[.slice A ln c, .int .i64 left] w fun e w' => ∃ r, e = .returned (.int .i64 r) ∧ r ≤ left ∧ (0 ≤ r → ts.length ≤ 1048576 ∧ ∀ t ∈ ts, t.l.length ≤ 1048576) ∧ Below w.heap.size w w' := by
  obtain rfl := hs.len_eq
  have hlen := hs.len_le
  by_cases hneg : left - ts.length < 0
  · go_enter Try.func95, Try.ntmps95
    go_wp2
    go_ret
    exact ⟨-1, rfl, by omega, fun h => absurd h (by omega), by exact (by repeat (first | (with_reducible refine Below.setCell ?_ (by first | omega | (· simp) | (· (simp; omega))) _) | (with_reducible refine Below.alloc ?_ (by first | omega | (· simp) | (· (simp; omega))) _) | (with_reducible refine Below.drew ?_) | (with_reducible refine bdrewN ?_ _) | (with_reducible exact Below.refl _ _) | (with_reducible assumption) | (with_reducible refine Below.trans ?_ (Below.mono (by assumption) (by first | omega | (· simp) | (· (simp; omega))))) | (with_reducible refine Below.trans ?_ (Kp.below (by assumption) (by first | omega | (· simp) | (· (simp; omega))) (by first | omega | (· simp) | (· (simp; omega)))))))⟩
  go_enter Try.func95, Try.ntmps95
  go_wp2
  go_loopw [1, 5] (fun l i wr => ∃ (k : Nat) (cur : Int), k ≤ ts.length ∧ i = .int .i64 k ∧ l = .int .i64 cur ∧ 0 ≤ cur ∧ cur ≤ left ∧ (∀ j (h : j < ts.length), j < k → ts[j].l.length ≤ 1048576) ∧ Below w.heap.size w wr) (fun _ i _ => ts.length - (intOf i).toNat)
  case atStart => exact ⟨0, _, Nat.zero_le _, rfl, rfl, by omega, by omega, fun j _ h => absurd h (Nat.not_lt_zero _), Below.refl _ _⟩
  case round =>
    obtain ⟨k, cur, hk, rfl, rfl, hc0, hc1, hall, hb⟩ := hrel
    have HALL := Lib.hid hall
    clear hall
    have hzb := hb.size
    by_cases hlt : k < ts.length
    · have hs' := hs.below hb (Nat.le_refl _)
      have hi' : Rd wr 4 encEntry (.slice ts[k].A ts[k].l.length ts[k].c) ts[k].l := Sl.rd ((hi _ (List.getElem_mem hlt)).below hb (Nat.le_refl _)) (by omega)
      obtain ⟨b, o, rfl, _, hc⟩ := hs'.at_ hlt
      have c0 := hc 0 _ rfl; have c1 := hc 1 _ rfl
      rw [Nat.add_zero] at c0
      clear hc
      go_wp2_with fail
      go_at_call 149
      refine (szTable_ex ts[k] _ _ hi' (hg _ (List.getElem_mem _)) hc0 (by omega)).mono ?_; rintro e w1 ⟨r, rfl, hr, hbd, hb1⟩
      by_cases hn : r < 0
      · go_wp2
        go_ret
        exact ⟨-1, rfl, by omega, fun h => absurd h (by omega), by exact (by repeat (first | (with_reducible refine Below.setCell ?_ (by first | omega | (· simp) | (· (simp; omega))) _) | (with_reducible refine Below.alloc ?_ (by first | omega | (· simp) | (· (simp; omega))) _) | (with_reducible refine Below.drew ?_) | (with_reducible refine bdrewN ?_ _) | (with_reducible exact Below.refl _ _) | (with_reducible assumption) | (with_reducible refine Below.trans ?_ (Below.mono (by assumption) (by first | omega | (· simp) | (· (simp; omega))))) | (with_reducible refine Below.trans ?_ (Kp.below (by assumption) (by first | omega | (· simp) | (· (simp; omega))) (by first | omega | (· simp) | (· (simp; omega)))))))⟩
      · have HBD := Lib.hid (hbd (by omega))
        clear hbd
        go_wp2
        go_roundw
        case rel => exact ⟨k + 1, r, by omega, by go_num, rfl, by omega, by omega, (fun j hj hjk => by
          by_cases e : j = k
          · subst e; exact HBD.out
          · exact HALL.out j hj (by omega)), by exact (by repeat (first | (with_reducible refine Below.setCell ?_ (by first | omega | (· simp) | (· (simp; omega))) _) | (with_reducible refine Below.alloc ?_ (by first | omega | (· simp) | (· (simp; omega))) _) | (with_reducible refine Below.drew ?_) | (with_reducible refine bdrewN ?_ _) | (with_reducible exact Below.refl _ _) | (with_reducible assumption) | (with_reducible refine Below.trans ?_ (Below.mono (by assumption) (by first | omega | (· simp) | (· (simp; omega))))) | (with_reducible refine Below.trans ?_ (Kp.below (by assumption) (by first | omega | (· simp) | (· (simp; omega))) (by first | omega | (· simp) | (· (simp; omega)))))))⟩
        case measure => simp [intOf]; omega
    · have hk' : k = ts.length := by omega
      subst hk'
      go_wp2
      go_ret
      exact ⟨_, rfl, by omega, fun _ => ⟨by omega, fun t ht => by
        obtain ⟨j, hj, rfl⟩ := List.getElem_of_mem ht
        exact HALL.out j hj hj⟩, hb⟩
set_option maxHeartbeats 1000000 in
theorem szEnv_ex (A B : Option Addr) (c c' : Nat) (vs : List GNamed) (ts : List GTab) (left : Int) (w : World) (hv : Rd w 4 encNamed (.slice A vs.length c) vs) (hs : Rd w 2 encTab (.slice B ts.length c') ts) (hi : InT w 0 w.heap.size ts) (hgv : ∀ v ∈ vs, goodNamed v) (hg : ∀ t ∈ ts, goodTab t) (h0 : 0 ≤ left) (h1 : left ≤ 1048576) :
    Calls Try.prog 41 #[.agg #[.slice A vs.length c, .slice B ts.length c'], .int .i64 left] w fun e w' => ∃ r, e = .returned (.int .i64 r) ∧ r ≤ left ∧ (0 ≤ r → vs.length ≤ 1048576 ∧ ts.length ≤ 1048576 ∧ ∀ t ∈ ts, t.l.length ≤ 1048576) ∧ Below w.heap.size w w' := by
  have hv1 : Rd (w.alloc (.cells #[.slice A vs.length c, .slice B ts.length c'] 63)) 4 encNamed (.slice A vs.length c) vs := (by repeat (first | (with_reducible assumption) | (with_reducible refine Rd.drew ?_) | (with_reducible refine Rd.drewN ?_ _) | (with_reducible refine Rd.alloc ?_ _) | (exact Own.rd (fun _ => rfl) (by with_reducible assumption)) | (exact Sl.rd (by with_reducible assumption) (by first | omega | (· simp) | (· (simp; omega)))) | (refine Rd.below ?_ (by with_reducible assumption) ?_) | omega | (· simp) | (· (simp; omega))))
  go_enter Try.func41, Try.ntmps41
  go_wp2_with fail
  go_at_call 94
  refine (szNamedS_ex _ _ _ vs _ _ hv1 hgv (by omega) (by omega)).mono ?_; rintro e w1 ⟨r1, rfl, hr1, hbd1, hb1⟩
  have hz1 := hb1.size
  simp only [World.size_alloc] at hz1
  have hs1 : Rd w1 2 encTab (.slice B ts.length c') ts := Sl.rd ((Sl.alloc hs (Nat.le_refl _) _).below hb1 (by simp)) (by omega)
  have hi1 : InT w1 0 w1.heap.size ts := ((hi.alloc (Nat.le_refl _) _).below hb1 (by simp)).wider (Nat.le_refl _) (by omega)
  have x1 : w1.cell? ⟨w.heap.size, 1, none⟩ = some (.slice B ts.length c') := (by repeat (first | (with_reducible assumption) | (with_reducible refine cell_drew ?_) | (with_reducible refine cell_drewN ?_) | (with_reducible exact cell_new rfl) | (exact cell_new' rfl (by first | rfl | (simp; done))) | (with_reducible refine cell_alloc ?_ ?_) | (refine cell_below (by with_reducible assumption) ?_ ?_) | (refine cell_kp (by with_reducible assumption) ?_ ?_) | omega | (· simp) | (· (simp; omega))))
  by_cases hn1 : r1 < 0
  · go_wp2
    go_ret
    exact ⟨-1, rfl, by omega, fun h => absurd h (by omega), by exact (by repeat (first | (with_reducible refine Below.setCell ?_ (by first | omega | (· simp) | (· (simp; omega))) _) | (with_reducible refine Below.alloc ?_ (by first | omega | (· simp) | (· (simp; omega))) _) | (with_reducible refine Below.drew ?_) | (with_reducible refine bdrewN ?_ _) | (with_reducible exact Below.refl _ _) | (with_reducible assumption) | (with_reducible refine Below.trans ?_ (Below.mono (by assumption) (by first | omega | (· simp) | (· (simp; omega))))) | (with_reducible refine Below.trans ?_ (Kp.below (by assumption) (by first | omega | (· simp) | (· (simp; omega))) (by first | omega | (· simp) | (· (simp; omega)))))))⟩
  go_wp2_with fail
  go_at_call 95
  refine (szTableS_ex _ _ _ ts _ _ hs1 hi1 hg (by omega) (by omega)).mono ?_; rintro e w2 ⟨r2, rfl, hr2, hbd2, hb2⟩
  by_cases hn2 : r2 < 0
  · go_wp2
    go_ret
    exact ⟨-1, rfl, by omega, fun h => absurd h (by omega), by exact (by repeat (first | (with_reducible refine Below.setCell ?_ (by first | omega | (· simp) | (· (simp; omega))) _) | (with_reducible refine Below.alloc ?_ (by first | omega | (· simp) | (· (simp; omega))) _) | (with_reducible refine Below.drew ?_) | (with_reducible refine bdrewN ?_ _) | (with_reducible exact Below.refl _ _) | (with_reducible assumption) | (with_reducible refine Below.trans ?_ (Below.mono (by assumption) (by first | omega | (· simp) | (· (simp; omega))))) | (with_reducible refine Below.trans ?_ (Kp.below (by assumption) (by first | omega | (· simp) | (· (simp; omega))) (by first | omega | (· simp) | (· (simp; omega)))))))⟩
  go_wp2
  go_ret
  exact ⟨_, rfl, by omega, fun h => ⟨hbd1 (by omega), hbd2 h⟩, by exact (by repeat (first | (with_reducible refine Below.setCell ?_ (by first | omega | (· simp) | (· (simp; omega))) _) | (with_reducible refine Below.alloc ?_ (by first | omega | (· simp) | (· (simp; omega))) _) | (with_reducible refine Below.drew ?_) | (with_reducible refine bdrewN ?_ _) | (with_reducible exact Below.refl _ _) | (with_reducible assumption) | (with_reducible refine Below.trans ?_ (Below.mono (by assumption) (by first | omega | (· simp) | (· (simp; omega))))) | (with_reducible refine Below.trans ?_ (Kp.below (by assumption) (by first | omega | (· simp) | (· (simp; omega))) (by first | omega | (· simp) | (· (simp; omega)))))))⟩
end Go.Proofs.Ytfnnbjkjfoiboaa
