/- Tables and environments: to and eq. -/
import Derived.Test.YtfnnbjkjfoiboaaEnvB
import Derived.Test.YtfnnbjkjfoiboaaApp
namespace Go.Proofs.Ytfnnbjkjfoiboaa
open Go.RowKit

theorem Fill.swap {w : World} {g N m : Nat} {e : TypeId} {xs ys : List Value} (h : Fill w g e N m xs) (hx : ∀ j, j < m → ys[j]? = xs[j]?) : Fill w g e N m ys := by
  obtain ⟨cur, hh, hs, hc⟩ := h
  exact ⟨cur, hh, hs, fun j hj => (hc j hj).trans (hx j hj).symm⟩
theorem flat_app_lt {α : Type} {enc : α → List Value} {k : Nat} (hk : ∀ d, (enc d).length = k) (us : List α) (t : α) (j : Nat) (hj : j < us.length * k) : ((us ++ [t]).flatMap enc)[j]? = (us.flatMap enc)[j]? := by
  rw [List.flatMap_append, List.getElem?_append_left (by rw [flat_len hk]; exact hj)]
set_option maxHeartbeats 1000000 in
theorem toTable_any (t : GTab) (w : World) (hi : Rd w 4 encEntry (.slice t.A t.l.length t.c) t.l) (hn : t.l.length ≤ 1073741824) :
    Calls Try.prog 151 #[.agg #[.string t.name, .slice t.A t.l.length t.c]] w fun e w' => ∃ A' c', e = .returned (.agg #[.string t.name, .slice A' t.l.length c']) ∧ Own w' w.heap.size w'.heap.size 116 4 encEntry (.slice A' t.l.length c') t.l ∧ Below w.heap.size w w' := by
  go_enter Try.func151, Try.ntmps151
  go_wp2_with (go_at_call 169; refine (toEntryS_any _ _ _ t.l _ (by repeat (first | (with_reducible assumption) | (with_reducible refine Rd.drew ?_) | (with_reducible refine Rd.drewN ?_ _) | (with_reducible refine Rd.alloc ?_ _) | (exact Own.rd (fun _ => rfl) (by with_reducible assumption)) | (exact Sl.rd (by with_reducible assumption) (by first | omega | (· simp) | (· (simp; omega)))) | (refine Rd.below ?_ (by with_reducible assumption) ?_) | omega | (· simp) | (· (simp; omega)))) hn).mono ?_; rintro e w1 ⟨v1, rfl, ho1, hb1⟩; obtain ⟨A1, c1, rfl⟩ := ho1.form; have hza := hb1.size; (try simp only [World.size_alloc, World.size_drew, World.size_setCell] at hza); have ka0 := blk hb1 (b := w.heap.size + 1) (by first | omega | (· simp) | (· (simp; omega))); have ka1 := blk hb1 (b := w.heap.size + 1 + 1) (by first | omega | (· simp) | (· (simp; omega))); have fa0 := bfz hb1 (b := w.heap.size + 1) (by first | omega | (· simp) | (· (simp; omega))); have fa1 := bfz hb1 (b := w.heap.size + 1 + 1) (by first | omega | (· simp) | (· (simp; omega))))
  have g1 : w1.heap[w.heap.size + 1]? = some (.cells #[.string ByteArray.empty, .slice none 0 0] 114 (0, 0)) := (hb1.block (w.heap.size + 1) (by simp)).trans (by simp only [heap_new, World.size_alloc]; simp; try rfl)
  refine bodyPost_ret (v := .agg #[.string t.name, .slice A1 t.l.length c1]) (ret_cell (t := 114) (fr := (0, 0)) rfl rfl Try.underlying114 (by kernel_rfl) ?_) rfl ⟨_, _, rfl, ?_, ?_⟩
  · simp only [heap_set, g1]; simp [setAt]
  · refine Own.wider (Ow.of_block ho1 fun g hg _ _ => ?_) (by simp; omega) (by simp)
    simp only [World.size_alloc] at hg
    simp only [heap_set]
    rw [if_neg (by omega), if_neg (by omega), if_neg (by omega)]
  · exact (by repeat (first | (with_reducible refine Below.setCell ?_ (by first | omega | (· simp) | (· (simp; omega))) _) | (with_reducible refine Below.alloc ?_ (by first | omega | (· simp) | (· (simp; omega))) _) | (with_reducible refine Below.drew ?_) | (with_reducible refine bdrewN ?_ _) | (with_reducible exact Below.refl _ _) | (with_reducible assumption) | (with_reducible refine Below.trans ?_ (Below.mono (by assumption) (by first | omega | (· simp) | (· (simp; omega))))) | (with_reducible refine Below.trans ?_ (Kp.below (by assumption) (by first | omega | (· simp) | (· (simp; omega))) (by first | omega | (· simp) | (· (simp; omega)))))))
theorem infoTab : (Try.prog.info? 114).map (fun i => (i.zero, i.size, i.bytes)) = some (some (.agg #[.string ByteArray.empty, .slice none 0 0]), 2, 40) := by kernel_rfl
set_option maxHeartbeats 1000000 in
theorem toTableS_any (A : Option Addr) (c : Nat) (ts : List GTab) (w : World) (hs : Rd w 2 encTab (.slice A ts.length c) ts) (hi : InT w 0 w.heap.size ts) (hn : ts.length ≤ 1073741824) (hn2 : ∀ t ∈ ts, t.l.length ≤ 1073741824) :
    Calls Try.prog 97 #[.slice A ts.length c] w fun e w' => ∃ A' c' us, e = .returned (.slice A' us.length c') ∧ Hid (SameT ts us) ∧ Own w' w.heap.size w'.heap.size 114 2 encTab (.slice A' us.length c') us ∧ InT w' w.heap.size w'.heap.size us ∧ Below w.heap.size w w' := by
  have hmk := mk_eq Try.underlying43 infoTab ts.length (by omega) (by omega)
  have hF := Fill.new w 114 #[.string ByteArray.empty, .slice none 0 0] (ts.length * 2) ([] : List Value)
  go_enter Try.func97, Try.ntmps97
  go_wp2
  go_loopw [4] (fun i wr => ∃ (k : Nat) (us : List GTab), k ≤ ts.length ∧ i = .int .i64 k ∧ Hid (us.length = k) ∧ Hid (SameT (ts.take k) us) ∧ Fill wr w.heap.size 114 (ts.length * 2) (k * 2) (us.flatMap encTab) ∧ w.heap.size + 1 ≤ wr.heap.size ∧ InT wr (w.heap.size + 1) wr.heap.size us ∧ Below w.heap.size w wr) (fun i _ => ts.length - (intOf i).toNat)
  case atStart => exact ⟨0, [], Nat.zero_le _, rfl, rfl, rfl, hF, by simp, (fun t ht => absurd ht (List.not_mem_nil)), by exact (by repeat (first | (with_reducible refine Below.setCell ?_ (by first | omega | (· simp) | (· (simp; omega))) _) | (with_reducible refine Below.alloc ?_ (by first | omega | (· simp) | (· (simp; omega))) _) | (with_reducible refine Below.drew ?_) | (with_reducible refine bdrewN ?_ _) | (with_reducible exact Below.refl _ _) | (with_reducible assumption) | (with_reducible refine Below.trans ?_ (Below.mono (by assumption) (by first | omega | (· simp) | (· (simp; omega))))) | (with_reducible refine Below.trans ?_ (Kp.below (by assumption) (by first | omega | (· simp) | (· (simp; omega))) (by first | omega | (· simp) | (· (simp; omega)))))))⟩
  case round =>
    obtain ⟨k, us, hk, rfl, HL, HS, hf, hge, hin, hb⟩ := hrel
    by_cases hlt : k < ts.length
    · have hs' := hs.below hb (Nat.le_refl _)
      have hzb := hb.size
      have hi' : Rd wr 4 encEntry (.slice ts[k].A ts[k].l.length ts[k].c) ts[k].l := Sl.rd ((hi _ (List.getElem_mem hlt)).below hb (Nat.le_refl _)) (by omega)
      have hnk := hn2 _ (List.getElem_mem hlt)
      obtain ⟨b, o, rfl, _, hcell⟩ := hs'.at_ hlt
      have hcell0 := hcell 0 _ rfl
      have hcell1 := hcell 1 _ rfl
      rw [Nat.add_zero] at hcell0
      clear hcell
      have HF := Lib.hid hf
      clear hf
      go_wp2_with (go_at_call 151; refine (toTable_any ts[k] _ hi' hnk).mono ?_; rintro e w1 ⟨A1, c1, rfl, ho1, hb1⟩; have hf1 := HF.out.below hb1 HF.out.lt; obtain ⟨u0, c0⟩ := hf1.cell (j := k * 2) (by omega); obtain ⟨u1, c1'⟩ := hf1.cell (j := k * 2 + 1) (by omega); have z0 := hf1.frozen)
      have hz1 := hb1.size
      go_roundw
      case rel =>
        have hl := HL.out
        have hk2 : k < (us ++ [(⟨ts[k].name, A1, c1, ts[k].l⟩ : GTab)]).length := by simp; omega
        have e := fun j hj => flat_at encTab_len (us ++ [(⟨ts[k].name, A1, c1, ts[k].l⟩ : GTab)]) k hk2 j hj
        have eT : (us ++ [(⟨ts[k].name, A1, c1, ts[k].l⟩ : GTab)])[k] = ⟨ts[k].name, A1, c1, ts[k].l⟩ := by rw [List.getElem_append_right (by omega)]; simp [hl]
        simp only [eT] at e
        have hf2 : Fill w1 w.heap.size 114 (ts.length * 2) (k * 2) ((us ++ [(⟨ts[k].name, A1, c1, ts[k].l⟩ : GTab)]).flatMap encTab) := hf1.swap fun j hj => flat_app_lt encTab_len us _ j (by omega)
        refine ⟨k + 1, us ++ [⟨ts[k].name, A1, c1, ts[k].l⟩], by omega, by go_num, by show _ = _; simp [hl], ?_, by rw [Nat.add_mul]; exact ((hf2.set (by omega) (e 0 (by omega))).set (by omega) (e 1 (by omega))), by simp; omega, ?_, by exact (by repeat (first | (with_reducible refine Below.setCell ?_ (by first | omega | (· simp) | (· (simp; omega))) _) | (with_reducible refine Below.alloc ?_ (by first | omega | (· simp) | (· (simp; omega))) _) | (with_reducible refine Below.drew ?_) | (with_reducible refine bdrewN ?_ _) | (with_reducible exact Below.refl _ _) | (with_reducible assumption) | (with_reducible refine Below.trans ?_ (Below.mono (by assumption) (by first | omega | (· simp) | (· (simp; omega))))) | (with_reducible refine Below.trans ?_ (Kp.below (by assumption) (by first | omega | (· simp) | (· (simp; omega))) (by first | omega | (· simp) | (· (simp; omega)))))))⟩
        · show SameT _ _
          have hs2 : (ts.take k).map GTab.d = us.map GTab.d := HS.out
          unfold SameT
          rw [List.take_succ_eq_append_getElem hlt, List.map_append, List.map_append, hs2]; rfl
        · intro t ht
          have K := fun (u v : Value) => (((Kp.refl w.heap.size (w.heap.size + 1) w1).set (p := ⟨w.heap.size, k * 2, none⟩) (Nat.le_refl _) (Nat.lt_succ_self _) u).set (p := ⟨w.heap.size, k * 2 + 1, none⟩) (Nat.le_refl _) (Nat.lt_succ_self _) v)
          rcases List.mem_append.1 ht with ht | ht
          · exact (((hin t ht).below hb1 (Nat.le_refl _)).kp (K _ _) (.inr (Nat.le_refl _))).wider (Nat.le_refl _) (by simp; omega)
          · obtain rfl := List.mem_singleton.1 ht
            exact ((ho1.sl encEntry_len).kp (K _ _) (.inr (by omega))).wider (by omega) (by simp)
      case measure => simp [intOf]; omega
    · have hk' : k = ts.length := by omega
      subst hk'
      go_wp2
      go_ret
      have hl := HL.out
      have own : wr.ownsRow w.heap.size 114 2 (.slice (some ⟨w.heap.size, 0, none⟩) ts.length ts.length) ts.length (us.flatMap encTab) := hf.owns (Nat.le_refl _) rfl (by rw [flat_len encTab_len, hl]) (by unfold maxLen; omega)
      rw [← hl] at own
      exact ⟨some ⟨w.heap.size, 0, none⟩, us.length, us, by rw [hl]; rfl, (by have h := HS.out; rw [List.take_length] at h; exact h), Own.of_owns own (Nat.le_refl _), hin.wider (by omega) (Nat.le_refl _), hb⟩
set_option maxHeartbeats 1000000 in
theorem toEnv_any (A B : Option Addr) (c c' : Nat) (vs : List GNamed) (ts : List GTab) (w : World) (hv : Rd w 4 encNamed (.slice A vs.length c) vs) (hs : Rd w 2 encTab (.slice B ts.length c') ts) (hi : InT w 0 w.heap.size ts) (hn0 : vs.length ≤ 1073741824) (hn : ts.length ≤ 1073741824) (hn2 : ∀ t ∈ ts, t.l.length ≤ 1073741824) :
    Calls Try.prog 43 #[.agg #[.slice A vs.length c, .slice B ts.length c']] w fun e w' => ∃ A1 c1 B1 d1 us, e = .returned (.agg #[.slice A1 vs.length c1, .slice B1 us.length d1]) ∧ Hid (SameT ts us) ∧ Own w' w.heap.size w'.heap.size 50 4 encNamed (.slice A1 vs.length c1) vs ∧ Own w' w.heap.size w'.heap.size 114 2 encTab (.slice B1 us.length d1) us ∧ InT w' w.heap.size w'.heap.size us ∧ Below w.heap.size w w' := by
  have hv1 : Rd (((w.alloc (.cells #[.slice A vs.length c, .slice B ts.length c'] 63)).alloc (.cells #[.slice none 0 0, .slice none 0 0] 45)).alloc (.cells #[.slice none 0 0, .slice none 0 0] 45)) 4 encNamed (.slice A vs.length c) vs := (by repeat (first | (with_reducible assumption) | (with_reducible refine Rd.drew ?_) | (with_reducible refine Rd.drewN ?_ _) | (with_reducible refine Rd.alloc ?_ _) | (exact Own.rd (fun _ => rfl) (by with_reducible assumption)) | (exact Sl.rd (by with_reducible assumption) (by first | omega | (· simp) | (· (simp; omega)))) | (refine Rd.below ?_ (by with_reducible assumption) ?_) | omega | (· simp) | (· (simp; omega))))
  go_enter Try.func43, Try.ntmps43
  go_wp2_with fail
  go_at_call 96
  refine (toNamedS_any _ _ _ vs _ hv1 hn0).mono ?_; rintro e w1 ⟨v1, rfl, ho1, hb1⟩
  obtain ⟨A1, c1, rfl⟩ := ho1.form
  have hz1 := hb1.size
  simp only [World.size_alloc] at hz1 hb1 ho1
  have x0 : w1.heap[w.heap.size]? = some (.cells #[.slice A vs.length c, .slice B ts.length c'] 63 (0, 0)) := (hb1.block _ (by omega)).trans (by simp only [heap_new, World.size_alloc]; rw [if_neg (by omega), if_neg (by omega), if_pos trivial])
  have x1 : w1.heap[w.heap.size + 1]? = some (.cells #[.slice none 0 0, .slice none 0 0] 45 (0, 0)) := (hb1.block _ (by omega)).trans (by simp only [heap_new, World.size_alloc]; simp)
  have x2 : w1.heap[w.heap.size + 1 + 1]? = some (.cells #[.slice none 0 0, .slice none 0 0] 45 (0, 0)) := (hb1.block _ (by omega)).trans (by simp only [heap_new, World.size_alloc]; simp)
  have k00 : w1.cell? ⟨w.heap.size, 1, none⟩ = some (.slice B ts.length c') := by rw [cell_of_row _ _ _ _ _ _ x0]; rfl
  have k1 : ∀ o, w1.frozen? ⟨w.heap.size + 1 + 1, o, none⟩ = false := by intro o; simp [World.frozen?, x2]
  have k2 : w1.cell? ⟨w.heap.size + 1 + 1, 0, none⟩ = some (.slice none 0 0) := by rw [cell_of_row _ _ _ _ _ _ x2]; rfl
  have hK : Kp (w.heap.size + 1 + 1) (w.heap.size + 1 + 1 + 1) w1 (w1.setCell ⟨w.heap.size + 1 + 1, 0, none⟩ (.slice A1 vs.length c1)) := (Kp.refl _ _ w1).set (p := ⟨w.heap.size + 1 + 1, 0, none⟩) (Nat.le_refl (w.heap.size + 1 + 1)) (Nat.lt_succ_self (w.heap.size + 1 + 1)) _
  have hB : Below w.heap.size w w1 := ((by exact (by repeat (first | (with_reducible refine Below.setCell ?_ (by first | omega | (· simp) | (· (simp; omega))) _) | (with_reducible refine Below.alloc ?_ (by first | omega | (· simp) | (· (simp; omega))) _) | (with_reducible refine Below.drew ?_) | (with_reducible refine bdrewN ?_ _) | (with_reducible exact Below.refl _ _) | (with_reducible assumption) | (with_reducible refine Below.trans ?_ (Below.mono (by assumption) (by first | omega | (· simp) | (· (simp; omega))))) | (with_reducible refine Below.trans ?_ (Kp.below (by assumption) (by first | omega | (· simp) | (· (simp; omega))) (by first | omega | (· simp) | (· (simp; omega))))))) : Below w.heap.size w _).trans (hb1.mono (by omega)))
  have y0 := cell_kp hK k00 (.inl (by omega))
  have y1 := (hK.block (w.heap.size + 1) (by omega) (.inl (by omega))).trans x1
  have y2 : (w1.setCell ⟨w.heap.size + 1 + 1, 0, none⟩ (.slice A1 vs.length c1)).heap[w.heap.size + 1 + 1]? = some (.cells #[.slice A1 vs.length c1, .slice none 0 0] 45 (0, 0)) := by simp only [heap_set, x2]; simp [setAt]
  have ho1' := ho1.kp hK (.inr (by omega))
  have hs1 : Rd (w1.setCell ⟨w.heap.size + 1 + 1, 0, none⟩ (.slice A1 vs.length c1)) 2 encTab (.slice B ts.length c') ts := Sl.rd ((Sl.below (B := w.heap.size) hs hB (Nat.le_refl _)).kp hK (.inl (by omega))) (by simp; omega)
  have hi1 : InT (w1.setCell ⟨w.heap.size + 1 + 1, 0, none⟩ (.slice A1 vs.length c1)) 0 (w1.setCell ⟨w.heap.size + 1 + 1, 0, none⟩ (.slice A1 vs.length c1)).heap.size ts := ((hi.below (B := w.heap.size) hB (Nat.le_refl _)).kp hK (.inl (by omega))).wider (Nat.le_refl _) (by simp; omega)
  have hB2 : Below w.heap.size w (w1.setCell ⟨w.heap.size + 1 + 1, 0, none⟩ (.slice A1 vs.length c1)) := hB.setCell (by show _ ≤ w.heap.size + 1 + 1; omega) _
  have hzz : (w1.setCell ⟨w.heap.size + 1 + 1, 0, none⟩ (.slice A1 vs.length c1)).heap.size = w1.heap.size := by simp
  go_wp2_with fail
  clear k00 k2 k1 x0 x1 x2 ho1
  generalize w1.setCell ⟨w.heap.size + 1 + 1, 0, none⟩ (.slice A1 vs.length c1) = w2 at *
  go_at_call 97
  refine (toTableS_any B c' ts _ hs1 hi1 hn hn2).mono ?_; rintro e w3 ⟨B1, d1, us, rfl, HS, ho3, hin3, hb3⟩
  have hz3 := hb3.size
  have g1 := (hb3.block (w.heap.size + 1) (by omega)).trans y1
  have g2 := (hb3.block (w.heap.size + 1 + 1) (by omega)).trans y2
  have f1 : ∀ o, w3.frozen? ⟨w.heap.size + 1, o, none⟩ = false := by intro o; simp [World.frozen?, g1]
  have f2 : ∀ o, w3.frozen? ⟨w.heap.size + 1 + 1, o, none⟩ = false := by intro o; simp [World.frozen?, g2]
  have q0 : w3.cell? ⟨w.heap.size + 1 + 1, 0, none⟩ = some (.slice A1 vs.length c1) := by rw [cell_of_row _ _ _ _ _ _ g2]; rfl
  have q1 : w3.cell? ⟨w.heap.size + 1 + 1, 1, none⟩ = some (.slice none 0 0) := by rw [cell_of_row _ _ _ _ _ _ g2]; rfl
  have r0 : w3.cell? ⟨w.heap.size + 1, 0, none⟩ = some (.slice none 0 0) := by rw [cell_of_row _ _ _ _ _ _ g1]; rfl
  have r1 : w3.cell? ⟨w.heap.size + 1, 1, none⟩ = some (.slice none 0 0) := by rw [cell_of_row _ _ _ _ _ _ g1]; rfl
  have ho1 := ho1'.below hb3 (by omega)
  go_wp2
  have K := fun (u v x : Value) => ((((Kp.refl (w.heap.size + 1) (w.heap.size + 1 + 1 + 1) w3).set (p := ⟨w.heap.size + 1 + 1, 1, none⟩) (by show w.heap.size + 1 ≤ w.heap.size + 1 + 1; omega) (Nat.lt_succ_self (w.heap.size + 1 + 1)) u).set (p := ⟨w.heap.size + 1, 0, none⟩) (Nat.le_refl (w.heap.size + 1)) (by show w.heap.size + 1 < w.heap.size + 1 + 1 + 1; omega) v).set (p := ⟨w.heap.size + 1, 1, none⟩) (Nat.le_refl (w.heap.size + 1)) (by show w.heap.size + 1 < w.heap.size + 1 + 1 + 1; omega) x)
  have hB3 := hB2.trans (hb3.mono (by omega))
  refine bodyPost_ret (v := .agg #[.slice A1 vs.length c1, .slice B1 us.length d1]) (ret_cell (t := 45) (fr := (0, 0)) rfl rfl Try.underlying45 (by kernel_rfl) ?_) rfl ⟨A1, c1, B1, d1, us, rfl, HS, ?_, ?_, ?_, ?_⟩
  · simp only [heap_set, g1, g2]; simp [setAt]
  · exact (ho1.kp (K _ _ _) (.inr (by omega))).wider (by omega) (by simp; omega)
  · exact (ho3.kp (K _ _ _) (.inr (by omega))).wider (by omega) (by simp)
  · exact (hin3.kp (K _ _ _) (.inr (by omega))).wider (by omega) (by simp)
  · exact hB3.trans ((K _ _ _).below (by omega) (by omega))
set_option maxHeartbeats 1000000 in
theorem eqTable_same (s : ByteArray) (A B : Option Addr) (c c' : Nat) (l : List GEntry) (w : World) (hs : Rd w 4 encEntry (.slice A l.length c) l) (ht : Rd w 4 encEntry (.slice B l.length c') l) :
    Calls Try.prog 153 #[.agg #[.string s, .slice A l.length c], .agg #[.string s, .slice B l.length c']] w fun e w' => e = .returned (.bool true) ∧ Below w.heap.size w w' := by
  go_enter Try.func153, Try.ntmps153
  go_wp2_with (go_at_call 170; refine (eqEntryS_same _ _ _ _ _ _ l _ (by repeat (first | (with_reducible assumption) | (with_reducible refine Rd.drew ?_) | (with_reducible refine Rd.drewN ?_ _) | (with_reducible refine Rd.alloc ?_ _) | (exact Own.rd (fun _ => rfl) (by with_reducible assumption)) | (exact Sl.rd (by with_reducible assumption) (by first | omega | (· simp) | (· (simp; omega)))) | (refine Rd.below ?_ (by with_reducible assumption) ?_) | omega | (· simp) | (· (simp; omega)))) (by repeat (first | (with_reducible assumption) | (with_reducible refine Rd.drew ?_) | (with_reducible refine Rd.drewN ?_ _) | (with_reducible refine Rd.alloc ?_ _) | (exact Own.rd (fun _ => rfl) (by with_reducible assumption)) | (exact Sl.rd (by with_reducible assumption) (by first | omega | (· simp) | (· (simp; omega)))) | (refine Rd.below ?_ (by with_reducible assumption) ?_) | omega | (· simp) | (· (simp; omega))))).mono ?_; rintro e w1 ⟨rfl, hb1⟩)
  go_ret
  exact ⟨rfl, (by repeat (first | (with_reducible refine Below.setCell ?_ (by first | omega | (· simp) | (· (simp; omega))) _) | (with_reducible refine Below.alloc ?_ (by first | omega | (· simp) | (· (simp; omega))) _) | (with_reducible refine Below.drew ?_) | (with_reducible refine bdrewN ?_ _) | (with_reducible exact Below.refl _ _) | (with_reducible assumption) | (with_reducible refine Below.trans ?_ (Below.mono (by assumption) (by first | omega | (· simp) | (· (simp; omega))))) | (with_reducible refine Below.trans ?_ (Kp.below (by assumption) (by first | omega | (· simp) | (· (simp; omega))) (by first | omega | (· simp) | (· (simp; omega)))))))⟩
set_option maxHeartbeats 1000000 in
theorem eqTableS_same (A B : Option Addr) (c c' : Nat) (ts us : List GTab) (w : World) (hs : Rd w 2 encTab (.slice A ts.length c) ts) (ht : Rd w 2 encTab (.slice B us.length c') us) (hi : InT w 0 w.heap.size ts) (hj : InT w 0 w.heap.size us) (HS : Hid (SameT ts us)) :
    Calls Try.prog 99 #[.slice A ts.length c, .slice B us.length c'] w fun e w' => e = .returned (.bool true) ∧ Below w.heap.size w w' := by
  have hlen := hs.len_le
  have hle : us.length = ts.length := (SameT.len HS.out).symm
  obtain ⟨n, HN⟩ : ∃ n, Hid (us.length = n) := ⟨_, rfl⟩
  rw [HN.out] at ht ⊢
  have hn : n = ts.length := HN.out.symm.trans hle
  subst hn
  clear hle
  go_enter Try.func99, Try.ntmps99
  go_wp2
  go_loopw [5] (fun i wr => ∃ (k : Nat), k ≤ ts.length ∧ i = .int .i64 k ∧ Below w.heap.size w wr) (fun i _ => ts.length - (intOf i).toNat)
  case atStart => exact ⟨0, Nat.zero_le _, rfl, Below.refl _ _⟩
  case round =>
    obtain ⟨k, hk, rfl, hb⟩ := hrel
    by_cases hlt : k < ts.length
    · have hs' := hs.below hb (Nat.le_refl _)
      have ht' := ht.below hb (Nat.le_refl _)
      have hzb := hb.size
      have hlt2 : k < us.length := by have := HN.out; omega
      obtain ⟨_, e1, e2⟩ := SameT.at_ HS.out hlt
      have hi' : Rd wr 4 encEntry (.slice ts[k].A ts[k].l.length ts[k].c) ts[k].l := Sl.rd ((hi _ (List.getElem_mem hlt)).below hb (Nat.le_refl _)) (by omega)
      have hj' : Rd wr 4 encEntry (.slice us[k].A us[k].l.length us[k].c) us[k].l := Sl.rd ((hj _ (List.getElem_mem hlt2)).below hb (Nat.le_refl _)) (by omega)
      rw [e2] at hj'
      obtain ⟨b, o, rfl, _, hc⟩ := hs'.at_ hlt
      have c0 := hc 0 _ rfl; have c1 := hc 1 _ rfl
      rw [Nat.add_zero] at c0
      obtain ⟨b', o', rfl, _, hd⟩ := ht'.at_ hlt2
      have d0 := hd 0 _ rfl; have d1 := hd 1 _ rfl
      rw [Nat.add_zero] at d0
      rw [e1] at d0
      rw [e2] at d1
      clear hc hd e1 e2
      go_wp2
      go_region_held3 (fun w' => w'.cell? ⟨b, o + k * 2, none⟩ = some (.string ts[k].name) ∧ w'.cell? ⟨b, o + k * 2 + 1, none⟩ = some (.slice ts[k].A ts[k].l.length ts[k].c) ∧ w'.cell? ⟨b', o' + k * 2, none⟩ = some (.string ts[k].name) ∧ w'.cell? ⟨b', o' + k * 2 + 1, none⟩ = some (.slice us[k].A ts[k].l.length us[k].c))
        (first | exact ⟨c0, c1, d0, d1⟩ | skip)
        ((go_at_call 153; refine (eqTable_same ts[k].name _ _ _ _ ts[k].l _ (by repeat (first | (with_reducible assumption) | (with_reducible refine Rd.drew ?_) | (with_reducible refine Rd.drewN ?_ _) | (with_reducible refine Rd.alloc ?_ _) | (exact Own.rd (fun _ => rfl) (by with_reducible assumption)) | (exact Sl.rd (by with_reducible assumption) (by first | omega | (· simp) | (· (simp; omega)))) | (refine Rd.below ?_ (by with_reducible assumption) ?_) | omega | (· simp) | (· (simp; omega)))) (by repeat (first | (with_reducible assumption) | (with_reducible refine Rd.drew ?_) | (with_reducible refine Rd.drewN ?_ _) | (with_reducible refine Rd.alloc ?_ _) | (exact Own.rd (fun _ => rfl) (by with_reducible assumption)) | (exact Sl.rd (by with_reducible assumption) (by first | omega | (· simp) | (· (simp; omega)))) | (refine Rd.below ?_ (by with_reducible assumption) ?_) | omega | (· simp) | (· (simp; omega))))).mono ?_; rintro e w1 ⟨rfl, hb1⟩; have c0 := cell_below hb1 c0 (by first | omega | (· simp) | (· (simp; omega))); have c1 := cell_below hb1 c1 (by first | omega | (· simp) | (· (simp; omega))); have d0 := cell_below hb1 d0 (by first | omega | (· simp) | (· (simp; omega))); have d1 := cell_below hb1 d1 (by first | omega | (· simp) | (· (simp; omega)))))
      go_wp2
      go_roundw
      case rel => exact ⟨k + 1, by omega, by go_num, by exact (by repeat (first | (with_reducible refine Below.setCell ?_ (by first | omega | (· simp) | (· (simp; omega))) _) | (with_reducible refine Below.alloc ?_ (by first | omega | (· simp) | (· (simp; omega))) _) | (with_reducible refine Below.drew ?_) | (with_reducible refine bdrewN ?_ _) | (with_reducible exact Below.refl _ _) | (with_reducible assumption) | (with_reducible refine Below.trans ?_ (Below.mono (by assumption) (by first | omega | (· simp) | (· (simp; omega))))) | (with_reducible refine Below.trans ?_ (Kp.below (by assumption) (by first | omega | (· simp) | (· (simp; omega))) (by first | omega | (· simp) | (· (simp; omega)))))))⟩
      case measure => simp [intOf]; omega
    · go_wp2
      go_ret
      exact ⟨rfl, hb⟩
set_option maxHeartbeats 1000000 in
theorem eqEnv_same (A B A' B' : Option Addr) (c d c' d' : Nat) (vs : List GNamed) (ts us : List GTab) (w : World) (hv : Rd w 4 encNamed (.slice A vs.length c) vs) (hv' : Rd w 4 encNamed (.slice A' vs.length c') vs)
    (hs : Rd w 2 encTab (.slice B ts.length d) ts) (ht : Rd w 2 encTab (.slice B' us.length d') us) (hi : InT w 0 w.heap.size ts) (hj : InT w 0 w.heap.size us) (HS : Hid (SameT ts us)) :
    Calls Try.prog 45 #[.agg #[.slice A vs.length c, .slice B ts.length d], .agg #[.slice A' vs.length c', .slice B' us.length d']] w fun e w' => e = .returned (.bool true) ∧ Below w.heap.size w w' := by
  have hv1 : Rd ((w.alloc (.cells #[.slice A vs.length c, .slice B ts.length d] 45)).alloc (.cells #[.slice A' vs.length c', .slice B' us.length d'] 45)) 4 encNamed (.slice A vs.length c) vs := (by repeat (first | (with_reducible assumption) | (with_reducible refine Rd.drew ?_) | (with_reducible refine Rd.drewN ?_ _) | (with_reducible refine Rd.alloc ?_ _) | (exact Own.rd (fun _ => rfl) (by with_reducible assumption)) | (exact Sl.rd (by with_reducible assumption) (by first | omega | (· simp) | (· (simp; omega)))) | (refine Rd.below ?_ (by with_reducible assumption) ?_) | omega | (· simp) | (· (simp; omega))))
  have hv2 : Rd ((w.alloc (.cells #[.slice A vs.length c, .slice B ts.length d] 45)).alloc (.cells #[.slice A' vs.length c', .slice B' us.length d'] 45)) 4 encNamed (.slice A' vs.length c') vs := (by repeat (first | (with_reducible assumption) | (with_reducible refine Rd.drew ?_) | (with_reducible refine Rd.drewN ?_ _) | (with_reducible refine Rd.alloc ?_ _) | (exact Own.rd (fun _ => rfl) (by with_reducible assumption)) | (exact Sl.rd (by with_reducible assumption) (by first | omega | (· simp) | (· (simp; omega)))) | (refine Rd.below ?_ (by with_reducible assumption) ?_) | omega | (· simp) | (· (simp; omega))))
  go_enter Try.func45, Try.ntmps45
  go_wp2_with fail
  go_at_call 98
  refine (eqNamedS_same _ _ _ _ _ _ vs _ hv1 hv2).mono ?_; rintro e w1 ⟨rfl, hb1⟩
  have hz1 := hb1.size
  simp only [World.size_alloc] at hz1
  have x1 : w1.cell? ⟨w.heap.size, 1, none⟩ = some (.slice B ts.length d) := (by repeat (first | (with_reducible assumption) | (with_reducible refine cell_drew ?_) | (with_reducible refine cell_drewN ?_) | (with_reducible exact cell_new rfl) | (exact cell_new' rfl (by first | rfl | (simp; done))) | (with_reducible refine cell_alloc ?_ ?_) | (refine cell_below (by with_reducible assumption) ?_ ?_) | (refine cell_kp (by with_reducible assumption) ?_ ?_) | omega | (· simp) | (· (simp; omega))))
  have x2 : w1.cell? ⟨w.heap.size + 1, 1, none⟩ = some (.slice B' us.length d') := (by repeat (first | (with_reducible assumption) | (with_reducible refine cell_drew ?_) | (with_reducible refine cell_drewN ?_) | (with_reducible exact cell_new rfl) | (exact cell_new' rfl (by first | rfl | (simp; done))) | (with_reducible refine cell_alloc ?_ ?_) | (refine cell_below (by with_reducible assumption) ?_ ?_) | (refine cell_kp (by with_reducible assumption) ?_ ?_) | omega | (· simp) | (· (simp; omega))))
  have hB : Below w.heap.size w w1 := ((by exact (by repeat (first | (with_reducible refine Below.setCell ?_ (by first | omega | (· simp) | (· (simp; omega))) _) | (with_reducible refine Below.alloc ?_ (by first | omega | (· simp) | (· (simp; omega))) _) | (with_reducible refine Below.drew ?_) | (with_reducible refine bdrewN ?_ _) | (with_reducible exact Below.refl _ _) | (with_reducible assumption) | (with_reducible refine Below.trans ?_ (Below.mono (by assumption) (by first | omega | (· simp) | (· (simp; omega))))) | (with_reducible refine Below.trans ?_ (Kp.below (by assumption) (by first | omega | (· simp) | (· (simp; omega))) (by first | omega | (· simp) | (· (simp; omega))))))) : Below w.heap.size w _).trans (hb1.mono (by simp; omega)))
  have hs1 : Rd w1 2 encTab (.slice B ts.length d) ts := Sl.rd (Sl.below (B := w.heap.size) hs hB (Nat.le_refl _)) (by omega)
  have ht1 : Rd w1 2 encTab (.slice B' us.length d') us := Sl.rd (Sl.below (B := w.heap.size) ht hB (Nat.le_refl _)) (by omega)
  have hi1 : InT w1 0 w1.heap.size ts := (hi.below (B := w.heap.size) hB (Nat.le_refl _)).wider (Nat.le_refl _) (by omega)
  have hj1 : InT w1 0 w1.heap.size us := (hj.below (B := w.heap.size) hB (Nat.le_refl _)).wider (Nat.le_refl _) (by omega)
  go_wp2_with fail
  go_at_call 99
  refine (eqTableS_same _ _ _ _ ts us _ hs1 ht1 hi1 hj1 HS).mono ?_; rintro e w2 ⟨rfl, hb2⟩
  go_wp2
  go_ret
  exact ⟨rfl, by exact (by repeat (first | (with_reducible refine Below.setCell ?_ (by first | omega | (· simp) | (· (simp; omega))) _) | (with_reducible refine Below.alloc ?_ (by first | omega | (· simp) | (· (simp; omega))) _) | (with_reducible refine Below.drew ?_) | (with_reducible refine bdrewN ?_ _) | (with_reducible exact Below.refl _ _) | (with_reducible assumption) | (with_reducible refine Below.trans ?_ (Below.mono (by assumption) (by first | omega | (· simp) | (· (simp; omega))))) | (with_reducible refine Below.trans ?_ (Kp.below (by assumption) (by first | omega | (· simp) | (· (simp; omega))) (by first | omega | (· simp) | (· (simp; omega)))))))⟩
end Go.Proofs.Ytfnnbjkjfoiboaa
