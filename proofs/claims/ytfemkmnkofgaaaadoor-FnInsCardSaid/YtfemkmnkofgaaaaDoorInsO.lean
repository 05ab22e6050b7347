/- GetIns of both sides. -/
import Derived.Test.YtfemkmnkofgaaaaDoorInsN
namespace Go.Proofs.YtfemkmnkofgaaaaDoor
open Go.RowKit
theorem zh2 {P : Program} {fn : Func} {p u v : Tmp} {ty t : TypeId} {tmps : Array Value} {w : World} {b : Nat} {cs : Array Value} {fr : Nat × Nat} {fs : Array Field}
    (h : fn.results = #[.cell p ty, .tmp u, .tmp v]) (ha : tmps.getD p undef = .pointer (some ⟨b, 0, none⟩)) (ht : P.underlying ty = some (.struct fs))
    (hc : (P.info? ty).map (·.size) = some cs.size)
    (hg : w.heap[b]? = some (.cells cs t fr)) : (results fn tmps).run P w = .ok (.tuple #[.agg cs, tmps.getD u undef, tmps.getD v undef]) w := by
  have ha' : tmps[p]?.getD undef = .pointer (some ⟨b, 0, none⟩) := by simpa using ha
  have hv := run_loadVar_row (P := P) w b t ty cs fr _ hg ht rfl hc
  simp only [results, h]
  simp [Sem.run_bind, Result.andThen, ha', asAddr, hv]
structure GIns where
  o : Nat
  n : Nat
  p : Nat
  ok : Bool
def gbad : GIns := ⟨0, 0, 0, false⟩
def getIns (bs : List UInt8) (at_ : Int) : GIns :=
  if (getU bs at_).2.2 = true then
    (if hasN (getU bs at_).1 = true then
      (if (getU bs (getU bs at_).2.1).2.2 = true then (if insOk (getU bs at_).1 (getU bs (getU bs at_).2.1).1 = true then ⟨(getU bs at_).1, (getU bs (getU bs at_).2.1).1, (getU bs (getU bs at_).2.1).2.1, true⟩ else gbad) else gbad)
    else (if insOk (getU bs at_).1 0 = true then ⟨(getU bs at_).1, 0, (getU bs at_).2.1, true⟩ else gbad))
  else gbad
def retIns (g : GIns) : Ending := .returned (.tuple #[.agg #[.int .i64 g.o, .int .i64 g.n], .int .i64 g.p, .bool g.ok])
theorem zd10 {bs : List UInt8} {p : Nat} : ∀ (f k n : Nat), (getGo bs p f k n).2.1 ≤ p + k + f ∧ (getGo bs p f k n).1 ≤ 2147483647
  | 0, k, n => by simp [getGo]
  | f + 1, k, n => by
    unfold getGo
    split
    · split
      · have := zd10 (bs := bs) (p := p) f (k + 1) (n + (bs.getD (p + k) 0).toNat % 128 * 128 ^ k); exact ⟨by omega, this.2⟩
      · split
        · simp
        · rename_i h; exact ⟨by show p + k + 1 ≤ p + k + (f + 1); omega, by simp only [not_or, Nat.not_lt] at h; exact h.2⟩
    · simp
theorem ze10 {bs : List UInt8} {at_ : Int} (hl : bs.length ≤ 1073741824) : ((getU bs at_).2.1 : Int) ≤ 2000000000 ∧ (getU bs at_).1 ≤ 2147483647 := by
  unfold getU
  split
  · have := zd10 (bs := bs) (p := at_.toNat) 5 0 0; omega
  · simp
set_option maxRecDepth 100000 in
set_option maxHeartbeats 2000000 in
theorem zc9 (A : Option Addr) (ln c : Nat) (bs : List UInt8) (at_ : Int) (w : World) (hs : Rd w 1 encB (.slice A ln c) bs) (hat : -9223372036854775808 ≤ at_ ∧ at_ ≤ 9223372036854775807) (hln : bs.length ≤ 1073741824) :
    Calls Tryd.prog 11 #[.slice A ln c, .int .i64 at_] w fun e w' => e = retIns (getIns bs at_) ∧ Below w.heap.size w w' := by
  obtain rfl := hs.len_eq
  have hle := ze10 (bs := bs) (at_ := at_) hln
  obtain ⟨G, hG⟩ : ∃ G, getIns bs at_ = G := ⟨_, rfl⟩
  rw [hG]
  unfold getIns at hG
  rcases hA : getU bs at_ with ⟨a, p, ok⟩
  rw [hA] at hle hG
  have HA := Lib.hid hA
  clear hA
  simp only [] at hle hG
  obtain ⟨hp, ha⟩ := hle
  rcases hB : getU bs (p : Int) with ⟨b, q, ok2⟩
  have hle2 := ze10 (bs := bs) (at_ := p) hln
  rw [hB] at hle2 hG
  have HB := Lib.hid hB
  clear hB
  simp only [] at hle2 hG
  obtain ⟨hq, hb⟩ := hle2
  cases ok
  · cases hh : hasN a
    · obtain rfl : G = gbad := by rw [← hG]; simp [hh]
      have HH := Lib.hid hh
      clear hh hG
      go_enter Tryd.func11, Tryd.ntmps11
      go_wp2_with fail
      refine (zq1 _ _ _ bs at_ _ (by repeat (first | (with_reducible assumption) | (with_reducible refine Rd.drew ?_) | (with_reducible refine Rd.drewN ?_ _) | (with_reducible refine Rd.alloc ?_ _) | (exact Own.rd (fun _ => rfl) (by with_reducible assumption)) | (exact Sl.rd (by with_reducible assumption) (by first | omega | (· simp) | (· (simp; omega)))) | (refine Rd.below ?_ (by with_reducible assumption) ?_) | omega | (· simp) | (· (simp; omega)))) hat hln).mono ?_; rw [HA.out]; rintro e w1 ⟨rfl, rfl⟩
      go_wp2_with fail
      refine (zr2 _ _).mono ?_; rw [HH.out]; rintro e w3 ⟨rfl, rfl⟩
      go_wp2_with fail
      refine bodyPost_ret (zh2 (cs := #[.int .i64 0, .int .i64 0]) (t := 25) (fr := (0, 0)) rfl rfl Tryd.underlying25 (by kernel_rfl) ?_) rfl ⟨rfl, (by repeat (first | (with_reducible refine Below.setCell ?_ (by first | omega | (· simp) | (· (simp; omega))) _) | (with_reducible refine Below.alloc ?_ (by first | omega | (· simp) | (· (simp; omega))) _) | (with_reducible refine Below.drew ?_) | (with_reducible refine zx2 ?_ _) | (with_reducible exact Below.refl _ _) | (with_reducible assumption) | (with_reducible refine Below.trans ?_ (Below.mono (by assumption) (by first | omega | (· simp) | (· (simp; omega))))) | (with_reducible refine Below.trans ?_ (Kp.below (by assumption) (by first | omega | (· simp) | (· (simp; omega))) (by first | omega | (· simp) | (· (simp; omega)))))))⟩
      exact (Below.heap_alloc _ _ w.heap.size (by simp)).trans (heap_alloc_new w _)
    · obtain rfl : G = gbad := by rw [← hG]; simp [hh]
      have HH := Lib.hid hh
      clear hh hG
      go_enter Tryd.func11, Tryd.ntmps11
      go_wp2_with fail
      refine (zq1 _ _ _ bs at_ _ (by repeat (first | (with_reducible assumption) | (with_reducible refine Rd.drew ?_) | (with_reducible refine Rd.drewN ?_ _) | (with_reducible refine Rd.alloc ?_ _) | (exact Own.rd (fun _ => rfl) (by with_reducible assumption)) | (exact Sl.rd (by with_reducible assumption) (by first | omega | (· simp) | (· (simp; omega)))) | (refine Rd.below ?_ (by with_reducible assumption) ?_) | omega | (· simp) | (· (simp; omega)))) hat hln).mono ?_; rw [HA.out]; rintro e w1 ⟨rfl, rfl⟩
      go_wp2_with fail
      refine (zr2 _ _).mono ?_; rw [HH.out]; rintro e w3 ⟨rfl, rfl⟩
      go_wp2_with fail
      refine (zq1 _ _ _ bs (p : Int) _ (by repeat (first | (with_reducible assumption) | (with_reducible refine Rd.drew ?_) | (with_reducible refine Rd.drewN ?_ _) | (with_reducible refine Rd.alloc ?_ _) | (exact Own.rd (fun _ => rfl) (by with_reducible assumption)) | (exact Sl.rd (by with_reducible assumption) (by first | omega | (· simp) | (· (simp; omega)))) | (refine Rd.below ?_ (by with_reducible assumption) ?_) | omega | (· simp) | (· (simp; omega)))) (by omega) hln).mono ?_; rw [HB.out]; rintro e w2 ⟨rfl, rfl⟩
      go_wp2_with fail
      refine bodyPost_ret (zh2 (cs := #[.int .i64 0, .int .i64 0]) (t := 25) (fr := (0, 0)) rfl rfl Tryd.underlying25 (by kernel_rfl) ?_) rfl ⟨rfl, (by repeat (first | (with_reducible refine Below.setCell ?_ (by first | omega | (· simp) | (· (simp; omega))) _) | (with_reducible refine Below.alloc ?_ (by first | omega | (· simp) | (· (simp; omega))) _) | (with_reducible refine Below.drew ?_) | (with_reducible refine zx2 ?_ _) | (with_reducible exact Below.refl _ _) | (with_reducible assumption) | (with_reducible refine Below.trans ?_ (Below.mono (by assumption) (by first | omega | (· simp) | (· (simp; omega))))) | (with_reducible refine Below.trans ?_ (Kp.below (by assumption) (by first | omega | (· simp) | (· (simp; omega))) (by first | omega | (· simp) | (· (simp; omega)))))))⟩
      exact (Below.heap_alloc _ _ w.heap.size (by simp)).trans (heap_alloc_new w _)
  · cases hh : hasN a
    · cases hi : insOk a 0
      · obtain rfl : G = gbad := by rw [← hG]; simp [hh, hi]
        have HH := Lib.hid hh
        clear hh hG
        have HI := Lib.hid hi
        clear hi
        go_enter Tryd.func11, Tryd.ntmps11
        go_wp2_with fail
        refine (zq1 _ _ _ bs at_ _ (by repeat (first | (with_reducible assumption) | (with_reducible refine Rd.drew ?_) | (with_reducible refine Rd.drewN ?_ _) | (with_reducible refine Rd.alloc ?_ _) | (exact Own.rd (fun _ => rfl) (by with_reducible assumption)) | (exact Sl.rd (by with_reducible assumption) (by first | omega | (· simp) | (· (simp; omega)))) | (refine Rd.below ?_ (by with_reducible assumption) ?_) | omega | (· simp) | (· (simp; omega)))) hat hln).mono ?_; rw [HA.out]; rintro e w1 ⟨rfl, rfl⟩
        go_wp2_with fail
        refine (zr2 _ _).mono ?_; rw [HH.out]; rintro e w3 ⟨rfl, rfl⟩
        go_wp2_with fail
        refine (zg4 _ _ _).mono ?_; rw [show insOk (a : Int) 0 = false from HI.out]; rintro e w4 ⟨rfl, hb4⟩
        have hz4 := hb4.size
        (try simp only [World.size_alloc, World.size_setCell] at hz4)
        have g4 : w4.heap[w.heap.size]? = some (.cells #[.int .i64 0, .int .i64 0] 25 (0, 0)) := ((hb4.block w.heap.size (by first | omega | (· simp) | (· (simp; omega)))).trans ((Below.heap_alloc _ _ w.heap.size (by simp)).trans (heap_alloc_new w _)))
        have x0 : w4.cell? ⟨w.heap.size + 1, 0, none⟩ = some (.int .i64 (a : Int)) := (zl1 hb4 (by simp [go_sem]) (by simp))
        have x1 : w4.cell? ⟨w.heap.size + 1, 1, none⟩ = some (.int .i64 0) := (zl1 hb4 (by simp [go_sem]) (by simp))
        have k0 : w4.cell? ⟨w.heap.size, 0, none⟩ = some (.int .i64 0) := (by simp [World.cell?, g4])
        have k1 : w4.cell? ⟨w.heap.size, 1, none⟩ = some (.int .i64 0) := (by simp [World.cell?, g4])
        have f4 : ∀ j, w4.frozen? ⟨w.heap.size, j, none⟩ = false := (by simp [World.frozen?, g4])
        go_wp2_with fail
        refine bodyPost_ret (zh2 (cs := #[.int .i64 0, .int .i64 0]) (t := 25) (fr := (0, 0)) rfl rfl Tryd.underlying25 (by kernel_rfl) ?_) rfl ⟨rfl, (by repeat (first | (with_reducible refine Below.setCell ?_ (by first | omega | (· simp) | (· (simp; omega))) _) | (with_reducible refine Below.alloc ?_ (by first | omega | (· simp) | (· (simp; omega))) _) | (with_reducible refine Below.drew ?_) | (with_reducible refine zx2 ?_ _) | (with_reducible exact Below.refl _ _) | (with_reducible assumption) | (with_reducible refine Below.trans ?_ (Below.mono (by assumption) (by first | omega | (· simp) | (· (simp; omega))))) | (with_reducible refine Below.trans ?_ (Kp.below (by assumption) (by first | omega | (· simp) | (· (simp; omega))) (by first | omega | (· simp) | (· (simp; omega)))))))⟩
        first | (simp only [zl4, g4]; simp [setAt]; done) | (simp [World.alloc, World.setCell, Array.getElem?_push, Array.getElem?_modify]; done)
      · obtain rfl : G = ⟨a, 0, p, true⟩ := by rw [← hG]; simp [hh, hi]
        have HH := Lib.hid hh
        clear hh hG
        have HI := Lib.hid hi
        clear hi
        go_enter Tryd.func11, Tryd.ntmps11
        go_wp2_with fail
        refine (zq1 _ _ _ bs at_ _ (by repeat (first | (with_reducible assumption) | (with_reducible refine Rd.drew ?_) | (with_reducible refine Rd.drewN ?_ _) | (with_reducible refine Rd.alloc ?_ _) | (exact Own.rd (fun _ => rfl) (by with_reducible assumption)) | (exact Sl.rd (by with_reducible assumption) (by first | omega | (· simp) | (· (simp; omega)))) | (refine Rd.below ?_ (by with_reducible assumption) ?_) | omega | (· simp) | (· (simp; omega)))) hat hln).mono ?_; rw [HA.out]; rintro e w1 ⟨rfl, rfl⟩
        go_wp2_with fail
        refine (zr2 _ _).mono ?_; rw [HH.out]; rintro e w3 ⟨rfl, rfl⟩
        go_wp2_with fail
        refine (zg4 _ _ _).mono ?_; rw [show insOk (a : Int) 0 = true from HI.out]; rintro e w4 ⟨rfl, hb4⟩
        have hz4 := hb4.size
        (try simp only [World.size_alloc, World.size_setCell] at hz4)
        have g4 : w4.heap[w.heap.size]? = some (.cells #[.int .i64 0, .int .i64 0] 25 (0, 0)) := ((hb4.block w.heap.size (by first | omega | (· simp) | (· (simp; omega)))).trans ((Below.heap_alloc _ _ w.heap.size (by simp)).trans (heap_alloc_new w _)))
        have x0 : w4.cell? ⟨w.heap.size + 1, 0, none⟩ = some (.int .i64 (a : Int)) := (zl1 hb4 (by simp [go_sem]) (by simp))
        have x1 : w4.cell? ⟨w.heap.size + 1, 1, none⟩ = some (.int .i64 0) := (zl1 hb4 (by simp [go_sem]) (by simp))
        have k0 : w4.cell? ⟨w.heap.size, 0, none⟩ = some (.int .i64 0) := (by simp [World.cell?, g4])
        have k1 : w4.cell? ⟨w.heap.size, 1, none⟩ = some (.int .i64 0) := (by simp [World.cell?, g4])
        have f4 : ∀ j, w4.frozen? ⟨w.heap.size, j, none⟩ = false := (by simp [World.frozen?, g4])
        go_wp2_with fail
        refine bodyPost_ret (zh2 (cs := #[.int .i64 (a : Int), .int .i64 0]) (t := 25) (fr := (0, 0)) rfl rfl Tryd.underlying25 (by kernel_rfl) ?_) rfl ⟨rfl, (by repeat (first | (with_reducible refine Below.setCell ?_ (by first | omega | (· simp) | (· (simp; omega))) _) | (with_reducible refine Below.alloc ?_ (by first | omega | (· simp) | (· (simp; omega))) _) | (with_reducible refine Below.drew ?_) | (with_reducible refine zx2 ?_ _) | (with_reducible exact Below.refl _ _) | (with_reducible assumption) | (with_reducible refine Below.trans ?_ (Below.mono (by assumption) (by first | omega | (· simp) | (· (simp; omega))))) | (with_reducible refine Below.trans ?_ (Kp.below (by assumption) (by first | omega | (· simp) | (· (simp; omega))) (by first | omega | (· simp) | (· (simp; omega)))))))⟩
        first | (simp only [zl4, g4]; simp [setAt]; done) | (simp [World.alloc, World.setCell, Array.getElem?_push, Array.getElem?_modify]; done)
    · cases ok2
      · obtain rfl : G = gbad := by rw [← hG]; simp [hh]
        have HH := Lib.hid hh
        clear hh hG
        go_enter Tryd.func11, Tryd.ntmps11
        go_wp2_with fail
        refine (zq1 _ _ _ bs at_ _ (by repeat (first | (with_reducible assumption) | (with_reducible refine Rd.drew ?_) | (with_reducible refine Rd.drewN ?_ _) | (with_reducible refine Rd.alloc ?_ _) | (exact Own.rd (fun _ => rfl) (by with_reducible assumption)) | (exact Sl.rd (by with_reducible assumption) (by first | omega | (· simp) | (· (simp; omega)))) | (refine Rd.below ?_ (by with_reducible assumption) ?_) | omega | (· simp) | (· (simp; omega)))) hat hln).mono ?_; rw [HA.out]; rintro e w1 ⟨rfl, rfl⟩
        go_wp2_with fail
        refine (zr2 _ _).mono ?_; rw [HH.out]; rintro e w3 ⟨rfl, rfl⟩
        go_wp2_with fail
        refine (zq1 _ _ _ bs (p : Int) _ (by repeat (first | (with_reducible assumption) | (with_reducible refine Rd.drew ?_) | (with_reducible refine Rd.drewN ?_ _) | (with_reducible refine Rd.alloc ?_ _) | (exact Own.rd (fun _ => rfl) (by with_reducible assumption)) | (exact Sl.rd (by with_reducible assumption) (by first | omega | (· simp) | (· (simp; omega)))) | (refine Rd.below ?_ (by with_reducible assumption) ?_) | omega | (· simp) | (· (simp; omega)))) (by omega) hln).mono ?_; rw [HB.out]; rintro e w2 ⟨rfl, rfl⟩
        go_wp2_with fail
        refine bodyPost_ret (zh2 (cs := #[.int .i64 0, .int .i64 0]) (t := 25) (fr := (0, 0)) rfl rfl Tryd.underlying25 (by kernel_rfl) ?_) rfl ⟨rfl, (by repeat (first | (with_reducible refine Below.setCell ?_ (by first | omega | (· simp) | (· (simp; omega))) _) | (with_reducible refine Below.alloc ?_ (by first | omega | (· simp) | (· (simp; omega))) _) | (with_reducible refine Below.drew ?_) | (with_reducible refine zx2 ?_ _) | (with_reducible exact Below.refl _ _) | (with_reducible assumption) | (with_reducible refine Below.trans ?_ (Below.mono (by assumption) (by first | omega | (· simp) | (· (simp; omega))))) | (with_reducible refine Below.trans ?_ (Kp.below (by assumption) (by first | omega | (· simp) | (· (simp; omega))) (by first | omega | (· simp) | (· (simp; omega)))))))⟩
        exact (Below.heap_alloc _ _ w.heap.size (by simp)).trans (heap_alloc_new w _)
      · cases hi : insOk a b
        · obtain rfl : G = gbad := by rw [← hG]; simp [hh, hi]
          have HH := Lib.hid hh
          clear hh hG
          have HI := Lib.hid hi
          clear hi
          go_enter Tryd.func11, Tryd.ntmps11
          go_wp2_with fail
          refine (zq1 _ _ _ bs at_ _ (by repeat (first | (with_reducible assumption) | (with_reducible refine Rd.drew ?_) | (with_reducible refine Rd.drewN ?_ _) | (with_reducible refine Rd.alloc ?_ _) | (exact Own.rd (fun _ => rfl) (by with_reducible assumption)) | (exact Sl.rd (by with_reducible assumption) (by first | omega | (· simp) | (· (simp; omega)))) | (refine Rd.below ?_ (by with_reducible assumption) ?_) | omega | (· simp) | (· (simp; omega)))) hat hln).mono ?_; rw [HA.out]; rintro e w1 ⟨rfl, rfl⟩
          go_wp2_with fail
          refine (zr2 _ _).mono ?_; rw [HH.out]; rintro e w3 ⟨rfl, rfl⟩
          go_wp2_with fail
          refine (zq1 _ _ _ bs (p : Int) _ (by repeat (first | (with_reducible assumption) | (with_reducible refine Rd.drew ?_) | (with_reducible refine Rd.drewN ?_ _) | (with_reducible refine Rd.alloc ?_ _) | (exact Own.rd (fun _ => rfl) (by with_reducible assumption)) | (exact Sl.rd (by with_reducible assumption) (by first | omega | (· simp) | (· (simp; omega)))) | (refine Rd.below ?_ (by with_reducible assumption) ?_) | omega | (· simp) | (· (simp; omega)))) (by omega) hln).mono ?_; rw [HB.out]; rintro e w2 ⟨rfl, rfl⟩
          go_wp2_with fail
          refine (zg4 _ _ _).mono ?_; rw [show insOk (a : Int) (b : Int) = false from HI.out]; rintro e w4 ⟨rfl, hb4⟩
          have hz4 := hb4.size
          (try simp only [World.size_alloc, World.size_setCell] at hz4)
          have g4 : w4.heap[w.heap.size]? = some (.cells #[.int .i64 0, .int .i64 0] 25 (0, 0)) := ((hb4.block w.heap.size (by first | omega | (· simp) | (· (simp; omega)))).trans ((Below.heap_alloc _ _ w.heap.size (by simp)).trans (heap_alloc_new w _)))
          have x0 : w4.cell? ⟨w.heap.size + 1, 0, none⟩ = some (.int .i64 (a : Int)) := (zl1 hb4 (by simp [go_sem]) (by simp))
          have x1 : w4.cell? ⟨w.heap.size + 1, 1, none⟩ = some (.int .i64 (b : Int)) := (zl1 hb4 (by simp [go_sem]) (by simp))
          have k0 : w4.cell? ⟨w.heap.size, 0, none⟩ = some (.int .i64 0) := (by simp [World.cell?, g4])
          have k1 : w4.cell? ⟨w.heap.size, 1, none⟩ = some (.int .i64 0) := (by simp [World.cell?, g4])
          have f4 : ∀ j, w4.frozen? ⟨w.heap.size, j, none⟩ = false := (by simp [World.frozen?, g4])
          go_wp2_with fail
          refine bodyPost_ret (zh2 (cs := #[.int .i64 0, .int .i64 0]) (t := 25) (fr := (0, 0)) rfl rfl Tryd.underlying25 (by kernel_rfl) ?_) rfl ⟨rfl, (by repeat (first | (with_reducible refine Below.setCell ?_ (by first | omega | (· simp) | (· (simp; omega))) _) | (with_reducible refine Below.alloc ?_ (by first | omega | (· simp) | (· (simp; omega))) _) | (with_reducible refine Below.drew ?_) | (with_reducible refine zx2 ?_ _) | (with_reducible exact Below.refl _ _) | (with_reducible assumption) | (with_reducible refine Below.trans ?_ (Below.mono (by assumption) (by first | omega | (· simp) | (· (simp; omega))))) | (with_reducible refine Below.trans ?_ (Kp.below (by assumption) (by first | omega | (· simp) | (· (simp; omega))) (by first | omega | (· simp) | (· (simp; omega)))))))⟩
          first | (simp only [zl4, g4]; simp [setAt]; done) | (simp [World.alloc, World.setCell, Array.getElem?_push, Array.getElem?_modify]; done)
        · obtain rfl : G = ⟨a, b, q, true⟩ := by rw [← hG]; simp [hh, hi]
          have HH := Lib.hid hh
          clear hh hG
          have HI := Lib.hid hi
          clear hi
          go_enter Tryd.func11, Tryd.ntmps11
          go_wp2_with fail
          refine (zq1 _ _ _ bs at_ _ (by repeat (first | (with_reducible assumption) | (with_reducible refine Rd.drew ?_) | (with_reducible refine Rd.drewN ?_ _) | (with_reducible refine Rd.alloc ?_ _) | (exact Own.rd (fun _ => rfl) (by with_reducible assumption)) | (exact Sl.rd (by with_reducible assumption) (by first | omega | (· simp) | (· (simp; omega)))) | (refine Rd.below ?_ (by with_reducible assumption) ?_) | omega | (· simp) | (· (simp; omega)))) hat hln).mono ?_; rw [HA.out]; rintro e w1 ⟨rfl, rfl⟩
          go_wp2_with fail
          refine (zr2 _ _).mono ?_; rw [HH.out]; rintro e w3 ⟨rfl, rfl⟩
          go_wp2_with fail
          refine (zq1 _ _ _ bs (p : Int) _ (by repeat (first | (with_reducible assumption) | (with_reducible refine Rd.drew ?_) | (with_reducible refine Rd.drewN ?_ _) | (with_reducible refine Rd.alloc ?_ _) | (exact Own.rd (fun _ => rfl) (by with_reducible assumption)) | (exact Sl.rd (by with_reducible assumption) (by first | omega | (· simp) | (· (simp; omega)))) | (refine Rd.below ?_ (by with_reducible assumption) ?_) | omega | (· simp) | (· (simp; omega)))) (by omega) hln).mono ?_; rw [HB.out]; rintro e w2 ⟨rfl, rfl⟩
          go_wp2_with fail
          refine (zg4 _ _ _).mono ?_; rw [show insOk (a : Int) (b : Int) = true from HI.out]; rintro e w4 ⟨rfl, hb4⟩
          have hz4 := hb4.size
          (try simp only [World.size_alloc, World.size_setCell] at hz4)
          have g4 : w4.heap[w.heap.size]? = some (.cells #[.int .i64 0, .int .i64 0] 25 (0, 0)) := ((hb4.block w.heap.size (by first | omega | (· simp) | (· (simp; omega)))).trans ((Below.heap_alloc _ _ w.heap.size (by simp)).trans (heap_alloc_new w _)))
          have x0 : w4.cell? ⟨w.heap.size + 1, 0, none⟩ = some (.int .i64 (a : Int)) := (zl1 hb4 (by simp [go_sem]) (by simp))
          have x1 : w4.cell? ⟨w.heap.size + 1, 1, none⟩ = some (.int .i64 (b : Int)) := (zl1 hb4 (by simp [go_sem]) (by simp))
          have k0 : w4.cell? ⟨w.heap.size, 0, none⟩ = some (.int .i64 0) := (by simp [World.cell?, g4])
          have k1 : w4.cell? ⟨w.heap.size, 1, none⟩ = some (.int .i64 0) := (by simp [World.cell?, g4])
          have f4 : ∀ j, w4.frozen? ⟨w.heap.size, j, none⟩ = false := (by simp [World.frozen?, g4])
          go_wp2_with fail
          refine bodyPost_ret (zh2 (cs := #[.int .i64 (a : Int), .int .i64 b]) (t := 25) (fr := (0, 0)) rfl rfl Tryd.underlying25 (by kernel_rfl) ?_) rfl ⟨rfl, (by repeat (first | (with_reducible refine Below.setCell ?_ (by first | omega | (· simp) | (· (simp; omega))) _) | (with_reducible refine Below.alloc ?_ (by first | omega | (· simp) | (· (simp; omega))) _) | (with_reducible refine Below.drew ?_) | (with_reducible refine zx2 ?_ _) | (with_reducible exact Below.refl _ _) | (with_reducible assumption) | (with_reducible refine Below.trans ?_ (Below.mono (by assumption) (by first | omega | (· simp) | (· (simp; omega))))) | (with_reducible refine Below.trans ?_ (Kp.below (by assumption) (by first | omega | (· simp) | (· (simp; omega))) (by first | omega | (· simp) | (· (simp; omega)))))))⟩
          first | (simp only [zl4, g4]; simp [setAt]; done) | (simp [World.alloc, World.setCell, Array.getElem?_push, Array.getElem?_modify]; done)
set_option maxRecDepth 100000 in
set_option maxHeartbeats 2000000 in
theorem zd9 (A : Option Addr) (ln c : Nat) (bs : List UInt8) (at_ : Int) (w : World) (hs : Rd w 1 encB (.slice A ln c) bs) (hat : -9223372036854775808 ≤ at_ ∧ at_ ≤ 9223372036854775807) (hln : bs.length ≤ 1073741824) :
    Calls Tryd.prog 10 #[.slice A ln c, .int .i64 at_] w fun e w' => e = retIns (getIns bs at_) ∧ Below w.heap.size w w' := by
  obtain rfl := hs.len_eq
  have hle := ze10 (bs := bs) (at_ := at_) hln
  obtain ⟨G, hG⟩ : ∃ G, getIns bs at_ = G := ⟨_, rfl⟩
  rw [hG]
  unfold getIns at hG
  rcases hA : getU bs at_ with ⟨a, p, ok⟩
  rw [hA] at hle hG
  have HA := Lib.hid hA
  clear hA
  simp only [] at hle hG
  obtain ⟨hp, ha⟩ := hle
  rcases hB : getU bs (p : Int) with ⟨b, q, ok2⟩
  have hle2 := ze10 (bs := bs) (at_ := p) hln
  rw [hB] at hle2 hG
  have HB := Lib.hid hB
  clear hB
  simp only [] at hle2 hG
  obtain ⟨hq, hb⟩ := hle2
  cases ok
  · cases hh : hasN a
    · obtain rfl : G = gbad := by rw [← hG]; simp [hh]
      have HH := Lib.hid hh
      clear hh hG
      go_enter Tryd.func10, Tryd.ntmps10
      go_wp2_with fail
      refine (zt1 _ _ _ bs at_ _ (by repeat (first | (with_reducible assumption) | (with_reducible refine Rd.drew ?_) | (with_reducible refine Rd.drewN ?_ _) | (with_reducible refine Rd.alloc ?_ _) | (exact Own.rd (fun _ => rfl) (by with_reducible assumption)) | (exact Sl.rd (by with_reducible assumption) (by first | omega | (· simp) | (· (simp; omega)))) | (refine Rd.below ?_ (by with_reducible assumption) ?_) | omega | (· simp) | (· (simp; omega)))) hat hln).mono ?_; rw [HA.out]; rintro e w1 ⟨rfl, rfl⟩
      go_wp2_with fail
      refine bodyPost_ret (zh2 (cs := #[.int .i64 0, .int .i64 0]) (t := 25) (fr := (0, 0)) rfl rfl Tryd.underlying25 (by kernel_rfl) ?_) rfl ⟨rfl, (by repeat (first | (with_reducible refine Below.setCell ?_ (by first | omega | (· simp) | (· (simp; omega))) _) | (with_reducible refine Below.alloc ?_ (by first | omega | (· simp) | (· (simp; omega))) _) | (with_reducible refine Below.drew ?_) | (with_reducible refine zx2 ?_ _) | (with_reducible exact Below.refl _ _) | (with_reducible assumption) | (with_reducible refine Below.trans ?_ (Below.mono (by assumption) (by first | omega | (· simp) | (· (simp; omega))))) | (with_reducible refine Below.trans ?_ (Kp.below (by assumption) (by first | omega | (· simp) | (· (simp; omega))) (by first | omega | (· simp) | (· (simp; omega)))))))⟩
      exact (Below.heap_alloc _ _ w.heap.size (by simp)).trans (heap_alloc_new w _)
    · obtain rfl : G = gbad := by rw [← hG]; simp [hh]
      have HH := Lib.hid hh
      clear hh hG
      go_enter Tryd.func10, Tryd.ntmps10
      go_wp2_with fail
      refine (zt1 _ _ _ bs at_ _ (by repeat (first | (with_reducible assumption) | (with_reducible refine Rd.drew ?_) | (with_reducible refine Rd.drewN ?_ _) | (with_reducible refine Rd.alloc ?_ _) | (exact Own.rd (fun _ => rfl) (by with_reducible assumption)) | (exact Sl.rd (by with_reducible assumption) (by first | omega | (· simp) | (· (simp; omega)))) | (refine Rd.below ?_ (by with_reducible assumption) ?_) | omega | (· simp) | (· (simp; omega)))) hat hln).mono ?_; rw [HA.out]; rintro e w1 ⟨rfl, rfl⟩
      go_wp2_with fail
      refine bodyPost_ret (zh2 (cs := #[.int .i64 0, .int .i64 0]) (t := 25) (fr := (0, 0)) rfl rfl Tryd.underlying25 (by kernel_rfl) ?_) rfl ⟨rfl, (by repeat (first | (with_reducible refine Below.setCell ?_ (by first | omega | (· simp) | (· (simp; omega))) _) | (with_reducible refine Below.alloc ?_ (by first | omega | (· simp) | (· (simp; omega))) _) | (with_reducible refine Below.drew ?_) | (with_reducible refine zx2 ?_ _) | (with_reducible exact Below.refl _ _) | (with_reducible assumption) | (with_reducible refine Below.trans ?_ (Below.mono (by assumption) (by first | omega | (· simp) | (· (simp; omega))))) | (with_reducible refine Below.trans ?_ (Kp.below (by assumption) (by first | omega | (· simp) | (· (simp; omega))) (by first | omega | (· simp) | (· (simp; omega)))))))⟩
      exact (Below.heap_alloc _ _ w.heap.size (by simp)).trans (heap_alloc_new w _)
  · cases hh : hasN a
    · cases hi : insOk a 0
      · obtain rfl : G = gbad := by rw [← hG]; simp [hh, hi]
        have HH := Lib.hid hh
        clear hh hG
        have HI := Lib.hid hi
        clear hi
        go_enter Tryd.func10, Tryd.ntmps10
        go_wp2_with fail
        refine (zt1 _ _ _ bs at_ _ (by repeat (first | (with_reducible assumption) | (with_reducible refine Rd.drew ?_) | (with_reducible refine Rd.drewN ?_ _) | (with_reducible refine Rd.alloc ?_ _) | (exact Own.rd (fun _ => rfl) (by with_reducible assumption)) | (exact Sl.rd (by with_reducible assumption) (by first | omega | (· simp) | (· (simp; omega)))) | (refine Rd.below ?_ (by with_reducible assumption) ?_) | omega | (· simp) | (· (simp; omega)))) hat hln).mono ?_; rw [HA.out]; rintro e w1 ⟨rfl, rfl⟩
        go_wp2_with fail
        refine (zg2 _ _).mono ?_; rw [HH.out]; rintro e w3 ⟨rfl, rfl⟩
        go_wp2_with fail
        refine (zh4 _ _ _).mono ?_; rw [show insOk (a : Int) 0 = false from HI.out]; rintro e w4 ⟨rfl, hb4⟩
        have hz4 := hb4.size
        (try simp only [World.size_alloc, World.size_setCell] at hz4)
        have g4 : w4.heap[w.heap.size]? = some (.cells #[.int .i64 0, .int .i64 0] 25 (0, 0)) := ((hb4.block w.heap.size (by first | omega | (· simp) | (· (simp; omega)))).trans ((Below.heap_alloc _ _ w.heap.size (by simp)).trans (heap_alloc_new w _)))
        have x0 : w4.cell? ⟨w.heap.size + 1, 0, none⟩ = some (.int .i64 (a : Int)) := (zl1 hb4 (by simp [go_sem]) (by simp))
        have x1 : w4.cell? ⟨w.heap.size + 1, 1, none⟩ = some (.int .i64 0) := (zl1 hb4 (by simp [go_sem]) (by simp))
        have k0 : w4.cell? ⟨w.heap.size, 0, none⟩ = some (.int .i64 0) := (by simp [World.cell?, g4])
        have k1 : w4.cell? ⟨w.heap.size, 1, none⟩ = some (.int .i64 0) := (by simp [World.cell?, g4])
        have f4 : ∀ j, w4.frozen? ⟨w.heap.size, j, none⟩ = false := (by simp [World.frozen?, g4])
        go_wp2_with fail
        refine bodyPost_ret (zh2 (cs := #[.int .i64 0, .int .i64 0]) (t := 25) (fr := (0, 0)) rfl rfl Tryd.underlying25 (by kernel_rfl) ?_) rfl ⟨rfl, (by repeat (first | (with_reducible refine Below.setCell ?_ (by first | omega | (· simp) | (· (simp; omega))) _) | (with_reducible refine Below.alloc ?_ (by first | omega | (· simp) | (· (simp; omega))) _) | (with_reducible refine Below.drew ?_) | (with_reducible refine zx2 ?_ _) | (with_reducible exact Below.refl _ _) | (with_reducible assumption) | (with_reducible refine Below.trans ?_ (Below.mono (by assumption) (by first | omega | (· simp) | (· (simp; omega))))) | (with_reducible refine Below.trans ?_ (Kp.below (by assumption) (by first | omega | (· simp) | (· (simp; omega))) (by first | omega | (· simp) | (· (simp; omega)))))))⟩
        first | (simp only [zl4, g4]; simp [setAt]; done) | (simp [World.alloc, World.setCell, Array.getElem?_push, Array.getElem?_modify]; done)
      · obtain rfl : G = ⟨a, 0, p, true⟩ := by rw [← hG]; simp [hh, hi]
        have HH := Lib.hid hh
        clear hh hG
        have HI := Lib.hid hi
        clear hi
        go_enter Tryd.func10, Tryd.ntmps10
        go_wp2_with fail
        refine (zt1 _ _ _ bs at_ _ (by repeat (first | (with_reducible assumption) | (with_reducible refine Rd.drew ?_) | (with_reducible refine Rd.drewN ?_ _) | (with_reducible refine Rd.alloc ?_ _) | (exact Own.rd (fun _ => rfl) (by with_reducible assumption)) | (exact Sl.rd (by with_reducible assumption) (by first | omega | (· simp) | (· (simp; omega)))) | (refine Rd.below ?_ (by with_reducible assumption) ?_) | omega | (· simp) | (· (simp; omega)))) hat hln).mono ?_; rw [HA.out]; rintro e w1 ⟨rfl, rfl⟩
        go_wp2_with fail
        refine (zg2 _ _).mono ?_; rw [HH.out]; rintro e w3 ⟨rfl, rfl⟩
        go_wp2_with fail
        refine (zh4 _ _ _).mono ?_; rw [show insOk (a : Int) 0 = true from HI.out]; rintro e w4 ⟨rfl, hb4⟩
        have hz4 := hb4.size
        (try simp only [World.size_alloc, World.size_setCell] at hz4)
        have g4 : w4.heap[w.heap.size]? = some (.cells #[.int .i64 0, .int .i64 0] 25 (0, 0)) := ((hb4.block w.heap.size (by first | omega | (· simp) | (· (simp; omega)))).trans ((Below.heap_alloc _ _ w.heap.size (by simp)).trans (heap_alloc_new w _)))
        have x0 : w4.cell? ⟨w.heap.size + 1, 0, none⟩ = some (.int .i64 (a : Int)) := (zl1 hb4 (by simp [go_sem]) (by simp))
        have x1 : w4.cell? ⟨w.heap.size + 1, 1, none⟩ = some (.int .i64 0) := (zl1 hb4 (by simp [go_sem]) (by simp))
        have k0 : w4.cell? ⟨w.heap.size, 0, none⟩ = some (.int .i64 0) := (by simp [World.cell?, g4])
        have k1 : w4.cell? ⟨w.heap.size, 1, none⟩ = some (.int .i64 0) := (by simp [World.cell?, g4])
        have f4 : ∀ j, w4.frozen? ⟨w.heap.size, j, none⟩ = false := (by simp [World.frozen?, g4])
        go_wp2_with fail
        refine bodyPost_ret (zh2 (cs := #[.int .i64 (a : Int), .int .i64 0]) (t := 25) (fr := (0, 0)) rfl rfl Tryd.underlying25 (by kernel_rfl) ?_) rfl ⟨rfl, (by repeat (first | (with_reducible refine Below.setCell ?_ (by first | omega | (· simp) | (· (simp; omega))) _) | (with_reducible refine Below.alloc ?_ (by first | omega | (· simp) | (· (simp; omega))) _) | (with_reducible refine Below.drew ?_) | (with_reducible refine zx2 ?_ _) | (with_reducible exact Below.refl _ _) | (with_reducible assumption) | (with_reducible refine Below.trans ?_ (Below.mono (by assumption) (by first | omega | (· simp) | (· (simp; omega))))) | (with_reducible refine Below.trans ?_ (Kp.below (by assumption) (by first | omega | (· simp) | (· (simp; omega))) (by first | omega | (· simp) | (· (simp; omega)))))))⟩
        first | (simp only [zl4, g4]; simp [setAt]; done) | (simp [World.alloc, World.setCell, Array.getElem?_push, Array.getElem?_modify]; done)
    · cases ok2
      · obtain rfl : G = gbad := by rw [← hG]; simp [hh]
        have HH := Lib.hid hh
        clear hh hG
        go_enter Tryd.func10, Tryd.ntmps10
        go_wp2_with fail
        refine (zt1 _ _ _ bs at_ _ (by repeat (first | (with_reducible assumption) | (with_reducible refine Rd.drew ?_) | (with_reducible refine Rd.drewN ?_ _) | (with_reducible refine Rd.alloc ?_ _) | (exact Own.rd (fun _ => rfl) (by with_reducible assumption)) | (exact Sl.rd (by with_reducible assumption) (by first | omega | (· simp) | (· (simp; omega)))) | (refine Rd.below ?_ (by with_reducible assumption) ?_) | omega | (· simp) | (· (simp; omega)))) hat hln).mono ?_; rw [HA.out]; rintro e w1 ⟨rfl, rfl⟩
        go_wp2_with fail
        refine (zg2 _ _).mono ?_; rw [HH.out]; rintro e w3 ⟨rfl, rfl⟩
        go_wp2_with fail
        refine (zt1 _ _ _ bs (p : Int) _ (by repeat (first | (with_reducible assumption) | (with_reducible refine Rd.drew ?_) | (with_reducible refine Rd.drewN ?_ _) | (with_reducible refine Rd.alloc ?_ _) | (exact Own.rd (fun _ => rfl) (by with_reducible assumption)) | (exact Sl.rd (by with_reducible assumption) (by first | omega | (· simp) | (· (simp; omega)))) | (refine Rd.below ?_ (by with_reducible assumption) ?_) | omega | (· simp) | (· (simp; omega)))) (by omega) hln).mono ?_; rw [HB.out]; rintro e w2 ⟨rfl, rfl⟩
        go_wp2_with fail
        refine bodyPost_ret (zh2 (cs := #[.int .i64 0, .int .i64 0]) (t := 25) (fr := (0, 0)) rfl rfl Tryd.underlying25 (by kernel_rfl) ?_) rfl ⟨rfl, (by repeat (first | (with_reducible refine Below.setCell ?_ (by first | omega | (· simp) | (· (simp; omega))) _) | (with_reducible refine Below.alloc ?_ (by first | omega | (· simp) | (· (simp; omega))) _) | (with_reducible refine Below.drew ?_) | (with_reducible refine zx2 ?_ _) | (with_reducible exact Below.refl _ _) | (with_reducible assumption) | (with_reducible refine Below.trans ?_ (Below.mono (by assumption) (by first | omega | (· simp) | (· (simp; omega))))) | (with_reducible refine Below.trans ?_ (Kp.below (by assumption) (by first | omega | (· simp) | (· (simp; omega))) (by first | omega | (· simp) | (· (simp; omega)))))))⟩
        exact (Below.heap_alloc _ _ w.heap.size (by simp)).trans (heap_alloc_new w _)
      · cases hi : insOk a b
        · obtain rfl : G = gbad := by rw [← hG]; simp [hh, hi]
          have HH := Lib.hid hh
          clear hh hG
          have HI := Lib.hid hi
          clear hi
          go_enter Tryd.func10, Tryd.ntmps10
          go_wp2_with fail
          refine (zt1 _ _ _ bs at_ _ (by repeat (first | (with_reducible assumption) | (with_reducible refine Rd.drew ?_) | (with_reducible refine Rd.drewN ?_ _) | (with_reducible refine Rd.alloc ?_ _) | (exact Own.rd (fun _ => rfl) (by with_reducible assumption)) | (exact Sl.rd (by with_reducible assumption) (by first | omega | (· simp) | (· (simp; omega)))) | (refine Rd.below ?_ (by with_reducible assumption) ?_) | omega | (· simp) | (· (simp; omega)))) hat hln).mono ?_; rw [HA.out]; rintro e w1 ⟨rfl, rfl⟩
          go_wp2_with fail
          refine (zg2 _ _).mono ?_; rw [HH.out]; rintro e w3 ⟨rfl, rfl⟩
          go_wp2_with fail
          refine (zt1 _ _ _ bs (p : Int) _ (by repeat (first | (with_reducible assumption) | (with_reducible refine Rd.drew ?_) | (with_reducible refine Rd.drewN ?_ _) | (with_reducible refine Rd.alloc ?_ _) | (exact Own.rd (fun _ => rfl) (by with_reducible assumption)) | (exact Sl.rd (by with_reducible assumption) (by first | omega | (· simp) | (· (simp; omega)))) | (refine Rd.below ?_ (by with_reducible assumption) ?_) | omega | (· simp) | (· (simp; omega)))) (by omega) hln).mono ?_; rw [HB.out]; rintro e w2 ⟨rfl, rfl⟩
          go_wp2_with fail
          refine (zh4 _ _ _).mono ?_; rw [show insOk (a : Int) (b : Int) = false from HI.out]; rintro e w4 ⟨rfl, hb4⟩
          have hz4 := hb4.size
          (try simp only [World.size_alloc, World.size_setCell] at hz4)
          have g4 : w4.heap[w.heap.size]? = some (.cells #[.int .i64 0, .int .i64 0] 25 (0, 0)) := ((hb4.block w.heap.size (by first | omega | (· simp) | (· (simp; omega)))).trans ((Below.heap_alloc _ _ w.heap.size (by simp)).trans (heap_alloc_new w _)))
          have x0 : w4.cell? ⟨w.heap.size + 1, 0, none⟩ = some (.int .i64 (a : Int)) := (zl1 hb4 (by simp [go_sem]) (by simp))
          have x1 : w4.cell? ⟨w.heap.size + 1, 1, none⟩ = some (.int .i64 (b : Int)) := (zl1 hb4 (by simp [go_sem]) (by simp))
          have k0 : w4.cell? ⟨w.heap.size, 0, none⟩ = some (.int .i64 0) := (by simp [World.cell?, g4])
          have k1 : w4.cell? ⟨w.heap.size, 1, none⟩ = some (.int .i64 0) := (by simp [World.cell?, g4])
          have f4 : ∀ j, w4.frozen? ⟨w.heap.size, j, none⟩ = false := (by simp [World.frozen?, g4])
          go_wp2_with fail
          refine bodyPost_ret (zh2 (cs := #[.int .i64 0, .int .i64 0]) (t := 25) (fr := (0, 0)) rfl rfl Tryd.underlying25 (by kernel_rfl) ?_) rfl ⟨rfl, (by repeat (first | (with_reducible refine Below.setCell ?_ (by first | omega | (· simp) | (· (simp; omega))) _) | (with_reducible refine Below.alloc ?_ (by first | omega | (· simp) | (· (simp; omega))) _) | (with_reducible refine Below.drew ?_) | (with_reducible refine zx2 ?_ _) | (with_reducible exact Below.refl _ _) | (with_reducible assumption) | (with_reducible refine Below.trans ?_ (Below.mono (by assumption) (by first | omega | (· simp) | (· (simp; omega))))) | (with_reducible refine Below.trans ?_ (Kp.below (by assumption) (by first | omega | (· simp) | (· (simp; omega))) (by first | omega | (· simp) | (· (simp; omega)))))))⟩
          first | (simp only [zl4, g4]; simp [setAt]; done) | (simp [World.alloc, World.setCell, Array.getElem?_push, Array.getElem?_modify]; done)
        · obtain rfl : G = ⟨a, b, q, true⟩ := by rw [← hG]; simp [hh, hi]
          have HH := Lib.hid hh
          clear hh hG
          have HI := Lib.hid hi
          clear hi
          go_enter Tryd.func10, Tryd.ntmps10
          go_wp2_with fail
          refine (zt1 _ _ _ bs at_ _ (by repeat (first | (with_reducible assumption) | (with_reducible refine Rd.drew ?_) | (with_reducible refine Rd.drewN ?_ _) | (with_reducible refine Rd.alloc ?_ _) | (exact Own.rd (fun _ => rfl) (by with_reducible assumption)) | (exact Sl.rd (by with_reducible assumption) (by first | omega | (· simp) | (· (simp; omega)))) | (refine Rd.below ?_ (by with_reducible assumption) ?_) | omega | (· simp) | (· (simp; omega)))) hat hln).mono ?_; rw [HA.out]; rintro e w1 ⟨rfl, rfl⟩
          go_wp2_with fail
          refine (zg2 _ _).mono ?_; rw [HH.out]; rintro e w3 ⟨rfl, rfl⟩
          go_wp2_with fail
          refine (zt1 _ _ _ bs (p : Int) _ (by repeat (first | (with_reducible assumption) | (with_reducible refine Rd.drew ?_) | (with_reducible refine Rd.drewN ?_ _) | (with_reducible refine Rd.alloc ?_ _) | (exact Own.rd (fun _ => rfl) (by with_reducible assumption)) | (exact Sl.rd (by with_reducible assumption) (by first | omega | (· simp) | (· (simp; omega)))) | (refine Rd.below ?_ (by with_reducible assumption) ?_) | omega | (· simp) | (· (simp; omega)))) (by omega) hln).mono ?_; rw [HB.out]; rintro e w2 ⟨rfl, rfl⟩
          go_wp2_with fail
          refine (zh4 _ _ _).mono ?_; rw [show insOk (a : Int) (b : Int) = true from HI.out]; rintro e w4 ⟨rfl, hb4⟩
          have hz4 := hb4.size
          (try simp only [World.size_alloc, World.size_setCell] at hz4)
          have g4 : w4.heap[w.heap.size]? = some (.cells #[.int .i64 0, .int .i64 0] 25 (0, 0)) := ((hb4.block w.heap.size (by first | omega | (· simp) | (· (simp; omega)))).trans ((Below.heap_alloc _ _ w.heap.size (by simp)).trans (heap_alloc_new w _)))
          have x0 : w4.cell? ⟨w.heap.size + 1, 0, none⟩ = some (.int .i64 (a : Int)) := (zl1 hb4 (by simp [go_sem]) (by simp))
          have x1 : w4.cell? ⟨w.heap.size + 1, 1, none⟩ = some (.int .i64 (b : Int)) := (zl1 hb4 (by simp [go_sem]) (by simp))
          have k0 : w4.cell? ⟨w.heap.size, 0, none⟩ = some (.int .i64 0) := (by simp [World.cell?, g4])
          have k1 : w4.cell? ⟨w.heap.size, 1, none⟩ = some (.int .i64 0) := (by simp [World.cell?, g4])
          have f4 : ∀ j, w4.frozen? ⟨w.heap.size, j, none⟩ = false := (by simp [World.frozen?, g4])
          go_wp2_with fail
          refine bodyPost_ret (zh2 (cs := #[.int .i64 (a : Int), .int .i64 b]) (t := 25) (fr := (0, 0)) rfl rfl Tryd.underlying25 (by kernel_rfl) ?_) rfl ⟨rfl, (by repeat (first | (with_reducible refine Below.setCell ?_ (by first | omega | (· simp) | (· (simp; omega))) _) | (with_reducible refine Below.alloc ?_ (by first | omega | (· simp) | (· (simp; omega))) _) | (with_reducible refine Below.drew ?_) | (with_reducible refine zx2 ?_ _) | (with_reducible exact Below.refl _ _) | (with_reducible assumption) | (with_reducible refine Below.trans ?_ (Below.mono (by assumption) (by first | omega | (· simp) | (· (simp; omega))))) | (with_reducible refine Below.trans ?_ (Kp.below (by assumption) (by first | omega | (· simp) | (· (simp; omega))) (by first | omega | (· simp) | (· (simp; omega)))))))⟩
          first | (simp only [zl4, g4]; simp [setAt]; done) | (simp [World.alloc, World.setCell, Array.getElem?_push, Array.getElem?_modify]; done)
end Go.Proofs.YtfemkmnkofgaaaaDoor
