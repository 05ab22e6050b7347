/- markText, and the mark and held functions. -/
import Derived.Test.YtfdjognmechcfaaRec
import Derived.Deep.RegionHeld3
import Derived.Deep.RegionWith
namespace Go.Proofs.Ytfdjognmechcfaa
open Go.RowKit

/-- The digits of k ahead of acc (fuel first). -/
def mdig : Nat → Nat → List UInt8 → List UInt8
  | 0, _, acc => acc
  | f + 1, k, acc => if k = 0 then acc else mdig f (k / 10) (UInt8.ofNat (48 + k % 10) :: acc)
theorem conv1 {P : Program} {t e d : TypeId} (hs : P.underlying t = some (.slice e)) (he : P.underlying e = some (.int .u8)) (hd : P.underlying d = some .string) (X : Int) (W : World) :
    (convert t d (.slice (some ⟨W.heap.size, 0, none⟩) 1 1)).run P (W.alloc (.cells #[.int .u8 X] e)) = .ok (.string (strOfNums [X])) (W.alloc (.cells #[.int .u8 X] e)) :=
  run_convert_bytes_arg _ t e hs he W.heap.size 0 1 1 [X] rfl (fun i hi => by
    have : i = 0 := by omega
    subst this
    rw [cell_of_row _ _ _ _ _ _ (heap_alloc_new W _)]; rfl) d hd
/-- What markText comes to. -/
def markT (k : Int) : ByteArray := if k ≤ 0 then ⟨#[109, 48]⟩ else ⟨#[109]⟩ ++ ⟨(mdig (k.toNat + 1) k.toNat []).toArray⟩
theorem strOf1 (x : Int) (l : List UInt8) : strOfNums [x] ++ ⟨l.toArray⟩ = ⟨(UInt8.ofNat x.toNat :: l).toArray⟩ := by
  show (ByteArray.mk [UInt8.ofNat x.toNat].toArray ++ ByteArray.mk l.toArray) = _
  rw [ByteArray.mk_append_mk]; rfl
set_option maxRecDepth 100000 in
set_option maxHeartbeats 400000 in
theorem markText_any (k : Int) (w : World) (hk : k ≤ 1152921504606846976) : Calls Try.prog 53 #[.int .i64 k] w fun e w' =>
    e = .returned (.string (markT k)) ∧ Below w.heap.size w w' := by
  have kc := fun X W => conv1 Try.underlying100 Try.underlying5 Try.underlying9 X W
  by_cases h0 : k ≤ 0
  · have e : markT k = ⟨#[109, 48]⟩ := if_pos h0
    rw [e]
    go_enter Try.func53, Try.ntmps53
    go_wp2
    go_ret
    exact ⟨rfl, Below.refl _ _⟩
  · obtain ⟨R, hR⟩ : ∃ R, markT k = R := ⟨_, rfl⟩
    rw [hR]
    unfold markT at hR
    rw [if_neg h0] at hR
    obtain ⟨L, hL⟩ : ∃ L, mdig (k.toNat + 1) k.toNat [] = L := ⟨_, rfl⟩
    rw [hL] at hR
    have HR := Lib.hid hR
    have HL := Lib.hid hL
    clear hR hL
    have hsz : ∀ x, (strOfNums [x]).size = 1 := fun x => strOfNums_size _
    go_enter Try.func53, Try.ntmps53
    go_wp2
    go_loopw [0, 3] (fun i s wr => ∃ (n f : Nat) (l : List UInt8), (n : Int) ≤ k ∧ l.length + n ≤ k ∧ i = .int .i64 n ∧ s = .string ⟨l.toArray⟩ ∧ n < f ∧ mdig f n l = L ∧ Below w.heap.size w wr) (fun i _ _ => (intOf i).toNat)
    case atStart => exact ⟨k.toNat, k.toNat + 1, [], by omega, by simp; omega, by rw [show ((k.toNat : Nat) : Int) = k from by omega], rfl, by omega, HL.out, (by repeat (first | (with_reducible refine Below.setCell ?_ (by first | omega | (· simp) | (· (simp; omega))) _) | (with_reducible refine Below.alloc ?_ (by first | omega | (· simp) | (· (simp; omega))) _) | (with_reducible refine Below.drew ?_) | (with_reducible refine bdrewN ?_ _) | (with_reducible exact Below.refl _ _) | (with_reducible assumption) | (with_reducible refine Below.trans ?_ (Below.mono (by assumption) (by first | omega | (· simp) | (· (simp; omega))))) | (with_reducible refine Below.trans ?_ (Kp.below (by assumption) (by first | omega | (· simp) | (· (simp; omega))) (by first | omega | (· simp) | (· (simp; omega)))))))⟩
    case round =>
      obtain ⟨n, f, l, hn, hln, rfl, rfl, hf, hd, hb⟩ := hrel
      have HD := Lib.hid hd
      clear hd
      have hll : l.length ≤ 9223372036854775806 := by omega
      by_cases hp : 0 < n
      · have hll : 1 + l.length ≤ 9223372036854775807 := by omega
        have hzb := hb.size
        go_wp2
        go_roundw
        case rel =>
          refine ⟨n / 10, f - 1, _, by omega, ?_, by go_num, by rw [strOf1], by omega, ?_, (by repeat (first | (with_reducible refine Below.setCell ?_ (by first | omega | (· simp) | (· (simp; omega))) _) | (with_reducible refine Below.alloc ?_ (by first | omega | (· simp) | (· (simp; omega))) _) | (with_reducible refine Below.drew ?_) | (with_reducible refine bdrewN ?_ _) | (with_reducible exact Below.refl _ _) | (with_reducible assumption) | (with_reducible refine Below.trans ?_ (Below.mono (by assumption) (by first | omega | (· simp) | (· (simp; omega))))) | (with_reducible refine Below.trans ?_ (Kp.below (by assumption) (by first | omega | (· simp) | (· (simp; omega))) (by first | omega | (· simp) | (· (simp; omega)))))))⟩
          · simp only [List.length_cons]; omega
          · have h := HD.out
            obtain ⟨f', rfl⟩ : ∃ f', f = f' + 1 := ⟨f - 1, by omega⟩
            rw [mdig, if_neg (by omega)] at h
            rw [← h, Nat.add_sub_cancel]
            congr 2
        case measure => simp [intOf]; omega
      · go_wp2
        go_ret
        have h := HD.out
        obtain ⟨f', rfl⟩ : ∃ f', f = f' + 1 := ⟨f - 1, by omega⟩
        rw [mdig, if_pos (by omega)] at h
        subst h
        exact ⟨by rw [← HR.out]; rfl, hb⟩
def fS (_ : Nat) (i : Int) : Value := .string (markT i)
theorem set1 {xs : List Value} {f : Nat → Int → Value} {k0 : Int} {k n : Nat} (hl : xs.length = n * 1) (hk : k < n) (h : ∀ i < k, xs[i]? = some (f 0 (k0 + i))) : ∀ i < k + 1, (xs.set k (f 0 (k0 + k)))[i]? = some (f 0 (k0 + i)) := by
  intro i hi
  rw [List.getElem?_set]
  by_cases e : k = i
  · subst e; rw [if_pos rfl, if_pos (by omega)]
  · rw [if_neg e]; exact h i (by omega)
theorem iadd (a : Int) (k : Nat) : a + (k : Int) + 1 = a + ((k + 1 : Nat) : Int) := by omega
set_option maxHeartbeats 400000 in
theorem markStringS_any (A : Option Addr) (c lo hi n : Nat) (k0 : Int) (xs : List Value) (w : World) (ho : Ow w lo hi 9 1 (.slice A n c) n xs) (hhi : hi ≤ w.heap.size) (h0 : 0 ≤ k0) (h1 : k0 + n ≤ 1152921504606846976) :
    Calls Try.prog 30 #[.slice A n c, .int .i64 k0] w fun e w' => e = .returned (.int .i64 (k0 + n)) ∧ Mk w' lo hi 9 1 fS (.slice A n c) n k0 ∧ Kp lo hi w w' := by
  go_enter Try.func30, Try.ntmps30
  go_wp2
  go_loopw [1, 5] (fun q i wr => ∃ (k : Nat), k ≤ n ∧ i = .int .i64 k ∧ q = .int .i64 (k0 + k) ∧ Kp lo hi w wr ∧ ∃ xs, Ow wr lo hi 9 1 (.slice A n c) n xs ∧ ∀ i < k, xs[i]? = some (fS 0 (k0 + i))) (fun _ i _ => n - (intOf i).toNat)
  case atStart => exact ⟨0, Nat.zero_le _, rfl, by simp, Kp.refl _ _ _, xs, ho, fun i hi => absurd hi (by omega)⟩
  case round =>
    obtain ⟨k, hk, rfl, rfl, hkp, ys, how, hall⟩ := hrel
    have HALL := Lib.hid hall
    clear hall
    have hzk := hkp.size
    by_cases hlt : k < n
    · go_wp2_with (go_at_call 53; refine (markText_any _ _ (by omega)).mono ?_; rintro e w1 ⟨rfl, hb1⟩; have how1 := how.below hb1 (by omega); obtain ⟨g, rfl, hg1, hg2, hc, hf⟩ := how1.at_ (by omega); have hl := Lib.hid how1.1.1; have hcell := hc k (ys[k]'(by have := hl.out; omega)) (by omega) (List.getElem?_eq_getElem _); have hf := hf k; clear hc)
      go_roundw
      case rel => exact ⟨k + 1, by omega, by go_num, by rw [iadd], (hkp.trans (Kp.of_below hb1)).set hg1 hg2 _, _, how1.set k _, set1 hl.out hlt HALL.out⟩
      case measure => simp [intOf]; omega
    · have hk' : k = n := by omega
      subst hk'
      go_wp2
      go_ret
      exact ⟨rfl, ⟨ys, how, fun i j hi hj => by
        obtain rfl : j = 0 := by omega
        simpa using HALL.out i hi⟩, hkp⟩
set_option maxHeartbeats 400000 in
theorem heldStringS_any (A : Option Addr) (c lo hi n : Nat) (k0 : Int) (w : World) (ho : Mk w lo hi 9 1 fS (.slice A n c) n k0) (hhi : hi ≤ w.heap.size) (h0 : 0 ≤ k0) (h1 : k0 + n ≤ 1152921504606846976) :
    Calls Try.prog 31 #[.slice A n c, .int .i64 k0] w fun e w' => e = .returned (.int .i64 (k0 + n)) ∧ Below w.heap.size w w' := by
  go_enter Try.func31, Try.ntmps31
  go_wp2
  go_loopw [1, 5] (fun q i wr => ∃ (k : Nat), k ≤ n ∧ i = .int .i64 k ∧ q = .int .i64 (k0 + k) ∧ Below w.heap.size w wr) (fun _ i _ => n - (intOf i).toNat)
  case atStart => exact ⟨0, Nat.zero_le _, rfl, by simp, Below.refl _ _⟩
  case round =>
    obtain ⟨k, hk, rfl, rfl, hb⟩ := hrel
    by_cases hlt : k < n
    · have ho' := ho.below hb hhi
      obtain ⟨g, rfl, _, hgh, hc⟩ := ho'.at_ hlt
      have hcell : wr.cell? ⟨g, k, none⟩ = some (.string (markT (k0 + k))) := by simpa [fS] using hc 0 (by omega)
      clear hc
      have hz := hb.size
      have hgl : g < wr.heap.size := by omega
      go_wp2
      go_region_held3 (fun w' => w'.cell? ⟨g, k, none⟩ = some (.string (markT (k0 + k)))) (first | assumption | skip) ((go_at_call 53; refine (markText_any _ _ (by omega)).mono ?_; rintro e w1 ⟨rfl, hb1⟩; have hn1 := (hb1.cell (p := ⟨g, k, none⟩) (by first | omega | (simp; omega))).trans (by assumption)))
      go_wp2
      go_roundw
      case rel => exact ⟨k + 1, by omega, by go_num, by rw [iadd], by exact (by repeat (first | (with_reducible refine Below.setCell ?_ (by first | omega | (· simp) | (· (simp; omega))) _) | (with_reducible refine Below.alloc ?_ (by first | omega | (· simp) | (· (simp; omega))) _) | (with_reducible refine Below.drew ?_) | (with_reducible refine bdrewN ?_ _) | (with_reducible exact Below.refl _ _) | (with_reducible assumption) | (with_reducible refine Below.trans ?_ (Below.mono (by assumption) (by first | omega | (· simp) | (· (simp; omega))))) | (with_reducible refine Below.trans ?_ (Kp.below (by assumption) (by first | omega | (· simp) | (· (simp; omega))) (by first | omega | (· simp) | (· (simp; omega)))))))⟩
      case measure => simp [intOf]; omega
    · have hk' : k = n := by omega
      subst hk'
      go_wp2
      go_ret
      exact ⟨rfl, hb⟩
theorem markStringS_own (A : Option Addr) (c lo hi n : Nat) (k0 : Int) (ds : List ByteArray) (w : World) (ho : Own w lo hi 9 1 encS (.slice A n c) ds) (hhi : hi ≤ w.heap.size) (h0 : 0 ≤ k0) (h1 : k0 + n ≤ 1152921504606846976) :
    Calls Try.prog 30 #[.slice A n c, .int .i64 k0] w fun e w' => e = .returned (.int .i64 (k0 + n)) ∧ Mk w' lo hi 9 1 fS (.slice A n c) n k0 ∧ Kp lo hi w w' :=
  markStringS_any A c lo hi n k0 _ w ho.ow.1 hhi h0 h1
end Go.Proofs.Ytfdjognmechcfaa
