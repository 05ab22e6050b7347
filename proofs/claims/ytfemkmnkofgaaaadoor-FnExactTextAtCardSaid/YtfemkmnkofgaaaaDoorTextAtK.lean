/- The machine: blocks given over to those that stand; the conversion of a literal's row of bytes, by which it stands from then on. -/
import Derived.Test.YtfemkmnkofgaaaaDoorTextAtJ
namespace Go.Proofs.YtfemkmnkofgaaaaDoor
open Go.RowKit
set_option maxRecDepth 100000
section
variable {C : Ctx} {φ : Nat → Lc} {F : Nat → List Nat} {St : Nat → Prop} {σ : AS} {a : Act} {w w' : World}
end
section
variable {P : Program} {ops : Array Oper} {Q : Exit → Act → World → Prop} {C : Ctx} {i : Nat} {r : List Nat} {o : Oper}
variable {tm : Nat → AV} {hp : Nat → Option Row} {gn L : Nat} {us : List Nat} {x : AV}
end
set_option maxRecDepth 100000 in
set_option maxHeartbeats 1000000 in
theorem szByteS_all' (A : Option Addr) (c : Nat) (l : List E) (ht : ∀ y ∈ l, y.Ty Tryd.prog 5) : Sz 70 (.lst 1 5 A c l) := by
  intro left w hr h0 h1
  have hs := hr.sl
  have hlen := hs.len_le
  have HSZ : Hid ((E.lst 1 5 A c l).sz = l.length + E.szL l) := rfl
  change Calls _ _ #[.slice A l.length c, .int .i64 left] w _
  have hz0 : E.szL l = 0 := E.szL_zero fun y hy => by
    obtain ⟨n, rfl, _⟩ := (ht y hy).int_ Tryd.underlying5
    rfl
  have HZ0 := Lib.hid hz0
  clear hz0
  go_enter Tryd.func70, Tryd.ntmps70
  by_cases hn : left - l.length < 0
  · go_wp2
    go_ret
    exact ⟨-1, rfl, .inl (by omega), by omega, by exact (by repeat (first | (with_reducible refine Below.setCell ?_ (by first | omega | (· simp) | (· (simp; omega))) _) | (with_reducible refine Below.alloc ?_ (by first | omega | (· simp) | (· (simp; omega))) _) | (with_reducible refine Below.drew ?_) | (with_reducible refine zk ?_ _) | (with_reducible exact Below.refl _ _) | (with_reducible assumption) | (with_reducible refine Below.trans ?_ (Below.mono (by assumption) (by first | omega | (· simp) | (· (simp; omega))))) | (with_reducible refine Below.trans ?_ (Kp.below (by assumption) (by first | omega | (· simp) | (· (simp; omega))) (by first | omega | (· simp) | (· (simp; omega)))))))⟩
  go_wp2
  go_ret
  refine ⟨_, rfl, .inr ?_, by omega, by exact (by repeat (first | (with_reducible refine Below.setCell ?_ (by first | omega | (· simp) | (· (simp; omega))) _) | (with_reducible refine Below.alloc ?_ (by first | omega | (· simp) | (· (simp; omega))) _) | (with_reducible refine Below.drew ?_) | (with_reducible refine zk ?_ _) | (with_reducible exact Below.refl _ _) | (with_reducible assumption) | (with_reducible refine Below.trans ?_ (Below.mono (by assumption) (by first | omega | (· simp) | (· (simp; omega))))) | (with_reducible refine Below.trans ?_ (Kp.below (by assumption) (by first | omega | (· simp) | (· (simp; omega))) (by first | omega | (· simp) | (· (simp; omega)))))))⟩
  show _ = _
  rw [HSZ.out, HZ0.out]
  push_cast
  omega
theorem zd9 {e : E} (ht : e.Ty Tryd.prog 22) : Sz 70 e := by
  obtain ⟨A, c, l, rfl, h1, _⟩ := ht.lst_ Tryd.underlying22 (k := 1) (by kernel_rfl)
  exact szByteS_all' A c l h1
theorem zg11 : (Tryd.prog.info? 5).map (fun i => (i.zero, i.size, i.bytes)) = some (some (.int .u8 0), 1, 1) := by kernel_rfl
set_option maxRecDepth 100000 in
set_option maxHeartbeats 1000000 in
theorem ze9 {e : E} (ht : e.Ty Tryd.prog 22) : To 77 22 e := by
  obtain ⟨A, c, l, rfl, h1, h2⟩ := ht.lst_ Tryd.underlying22 (k := 1) (by kernel_rfl)
  intro w hr hsz
  have hs := hr.sl
  have hn : l.length ≤ 1048576 := by have e : (E.lst 1 5 A c l).sz = l.length + E.szL l := rfl; omega
  have hmk := zm5 Tryd.underlying22 zg11 l.length (by omega) (by omega)
  have hF := Fill.new w 5 #[.int .u8 0] l.length (E.encL l)
  have hxs := E.encL_len h2
  rw [Nat.mul_one] at hxs
  have HX := Lib.hid hxs
  have H1 := Lib.hid h1
  have H2 := Lib.hid h2
  clear hxs h1 h2
  change Calls _ _ #[.slice A l.length c] w _
  go_enter Tryd.func77, Tryd.ntmps77
  go_wp2
  go_loopw [4] (fun i wr => ∃ (k : Nat), k ≤ l.length ∧ i = .int .i64 k ∧ Fill wr w.heap.size 5 l.length k (E.encL l) ∧ Below w.heap.size w wr) (fun i _ => l.length - (intOf i).toNat)
  case atStart => exact ⟨0, Nat.zero_le _, rfl, hF, by exact (by repeat (first | (with_reducible refine Below.setCell ?_ (by first | omega | (· simp) | (· (simp; omega))) _) | (with_reducible refine Below.alloc ?_ (by first | omega | (· simp) | (· (simp; omega))) _) | (with_reducible refine Below.drew ?_) | (with_reducible refine zk ?_ _) | (with_reducible exact Below.refl _ _) | (with_reducible assumption) | (with_reducible refine Below.trans ?_ (Below.mono (by assumption) (by first | omega | (· simp) | (· (simp; omega))))) | (with_reducible refine Below.trans ?_ (Kp.below (by assumption) (by first | omega | (· simp) | (· (simp; omega))) (by first | omega | (· simp) | (· (simp; omega)))))))⟩
  case round =>
    obtain ⟨k, hk, rfl, hf, hb⟩ := hrel
    by_cases hlt : k < l.length
    · have hs' := hs.below hb (Nat.le_refl _)
      obtain ⟨b, o, rfl, _, hcell⟩ := hs'.at1 hlt
      have hx := E.encL_at H2.out k hlt 0 (by omega)
      obtain ⟨n, ex, gn⟩ := (H1.out _ (List.getElem_mem hlt)).int_ Tryd.underlying5
      have hcell := hcell _ (by rw [ex]; rfl)
      obtain ⟨u, hc2⟩ := hf.cell hlt
      have hf2 := hf.frozen k
      rw [Nat.mul_one, Nat.add_zero, ex] at hx
      have R := (hf.set hlt hx)
      clear hx hf ex
      go_wp2
      go_roundw
      case rel => exact ⟨k + 1, by omega, by go_num, R, hb.setCell (Nat.le_refl _) _⟩
      case measure => simp [intOf]; omega
    · have hk' : k = l.length := by omega
      subst hk'
      go_wp2
      go_ret
      have hfl : ∀ e ∈ l, e.fp = [] := fun e he => by
        obtain ⟨n, rfl, _⟩ := (H1.out e he).int_ Tryd.underlying5
        rfl
      refine ⟨.lst 1 5 (some ⟨w.heap.size, 0, none⟩) l.length l, rfl, za3.2 rfl, E.Ty.mk_lst Tryd.underlying22 (by kernel_rfl) H1.out H2.out, E.Ho.mk (Ow.of_owns (hf.owns (Nat.le_refl _) (Nat.mul_one _).symm HX.out (by unfold maxLen; omega)) (Nat.le_refl _)) H2.out (fun e he => ?_), ?_, hb⟩
      · obtain ⟨n, rfl, _⟩ := (H1.out e he).int_ Tryd.underlying5
        trivial
      · simp only [E.fp, E.fpL_nil hfl]; simp
set_option maxRecDepth 100000 in
set_option maxHeartbeats 1000000 in
theorem eqByteS_all' (A B : Option Addr) (c c' : Nat) (l m : List E) (h1 : ∀ y ∈ l, y.Ty Tryd.prog 5) (h2 : ∀ y ∈ m, y.Ty Tryd.prog 5) : Eq 85 (.lst 1 5 A c l) (.lst 1 5 B c' m) := by
  intro hd w hr hr'
  rw [za3] at hd
  have hs := hr.sl
  have hs' := hr'.sl
  have hml := zn5 hd
  have HD := Lib.hid hd
  clear hd
  have hlen := hs.len_le
  change Calls _ _ #[.slice A l.length c, .slice B m.length c'] w _
  obtain ⟨N, HN⟩ : ∃ N, Hid (m.length = N) := ⟨_, rfl⟩
  have hN : N = l.length := by have := HN.out; omega
  subst hN
  rw [HN.out]
  clear hml
  go_enter Tryd.func85, Tryd.ntmps85
  go_wp2
  go_loopw [5] (fun i wr => ∃ (k : Nat), k ≤ l.length ∧ i = .int .i64 k ∧ Below w.heap.size w wr) (fun i _ => l.length - (intOf i).toNat)
  case atStart => exact ⟨0, Nat.zero_le _, rfl, Below.refl _ _⟩
  case round =>
    obtain ⟨k, hk, rfl, hb⟩ := hrel
    by_cases hlt : k < l.length
    · have hltm : k < m.length := by have := HN.out; omega
      have hsb := hs.below hb (Nat.le_refl _)
      have hsb' := hs'.below hb (Nat.le_refl _)
      have hdk := d_at HD.out hlt hltm
      obtain ⟨b, o, rfl, _, hc⟩ := hsb.at_ hlt
      obtain ⟨b', o', rfl, _, hd⟩ := hsb'.at_ hltm
      obtain ⟨a, ea, ga⟩ := (h1 _ (List.getElem_mem hlt)).int_ Tryd.underlying5
      obtain ⟨a2, eb, gb⟩ := (h2 _ (List.getElem_mem hltm)).int_ Tryd.underlying5
      rw [ea, eb] at hdk
      simp only [E.d, E.int.injEq, E.str.injEq, true_and] at hdk
      subst hdk
      rw [ea] at hc
      rw [eb] at hd
      clear ea eb
      have c0 := hc 0 _ rfl
      have d0 := hd 0 _ rfl
      rw [Nat.add_zero, Nat.mul_one] at c0 d0
      clear hc hd
      go_wp2
      go_quiet (fail)
      go_wp2
      go_roundw
      case rel => exact ⟨k + 1, by omega, by go_num, by exact (by repeat (first | (with_reducible refine Below.setCell ?_ (by first | omega | (· simp) | (· (simp; omega))) _) | (with_reducible refine Below.alloc ?_ (by first | omega | (· simp) | (· (simp; omega))) _) | (with_reducible refine Below.drew ?_) | (with_reducible refine zk ?_ _) | (with_reducible exact Below.refl _ _) | (with_reducible assumption) | (with_reducible refine Below.trans ?_ (Below.mono (by assumption) (by first | omega | (· simp) | (· (simp; omega))))) | (with_reducible refine Below.trans ?_ (Kp.below (by assumption) (by first | omega | (· simp) | (· (simp; omega))) (by first | omega | (· simp) | (· (simp; omega)))))))⟩
      case measure => simp [intOf]; omega
    · go_wp2
      go_ret
      exact ⟨rfl, hb⟩
theorem zf9 {e e' : E} (ht : e.Ty Tryd.prog 22) (ht' : e'.Ty Tryd.prog 22) : Eq 85 e e' := by
  obtain ⟨A, c, l, rfl, h1, _⟩ := ht.lst_ Tryd.underlying22 (k := 1) (by kernel_rfl)
  obtain ⟨B, c', m, rfl, h2, _⟩ := ht'.lst_ Tryd.underlying22 (k := 1) (by kernel_rfl)
  exact eqByteS_all' A B c c' l m h1 h2
set_option maxRecDepth 100000 in
set_option maxHeartbeats 1000000 in
theorem szIntS_all' (A : Option Addr) (c : Nat) (l : List E) (ht : ∀ y ∈ l, y.Ty Tryd.prog 3) : Sz 66 (.lst 1 3 A c l) := by
  intro left w hr h0 h1
  have hs := hr.sl
  have hlen := hs.len_le
  have HSZ : Hid ((E.lst 1 3 A c l).sz = l.length + E.szL l) := rfl
  change Calls _ _ #[.slice A l.length c, .int .i64 left] w _
  have hz0 : E.szL l = 0 := E.szL_zero fun y hy => by
    obtain ⟨n, rfl, _⟩ := (ht y hy).int_ Tryd.underlying3
    rfl
  have HZ0 := Lib.hid hz0
  clear hz0
  go_enter Tryd.func66, Tryd.ntmps66
  by_cases hn : left - l.length < 0
  · go_wp2
    go_ret
    exact ⟨-1, rfl, .inl (by omega), by omega, by exact (by repeat (first | (with_reducible refine Below.setCell ?_ (by first | omega | (· simp) | (· (simp; omega))) _) | (with_reducible refine Below.alloc ?_ (by first | omega | (· simp) | (· (simp; omega))) _) | (with_reducible refine Below.drew ?_) | (with_reducible refine zk ?_ _) | (with_reducible exact Below.refl _ _) | (with_reducible assumption) | (with_reducible refine Below.trans ?_ (Below.mono (by assumption) (by first | omega | (· simp) | (· (simp; omega))))) | (with_reducible refine Below.trans ?_ (Kp.below (by assumption) (by first | omega | (· simp) | (· (simp; omega))) (by first | omega | (· simp) | (· (simp; omega)))))))⟩
  go_wp2
  go_ret
  refine ⟨_, rfl, .inr ?_, by omega, by exact (by repeat (first | (with_reducible refine Below.setCell ?_ (by first | omega | (· simp) | (· (simp; omega))) _) | (with_reducible refine Below.alloc ?_ (by first | omega | (· simp) | (· (simp; omega))) _) | (with_reducible refine Below.drew ?_) | (with_reducible refine zk ?_ _) | (with_reducible exact Below.refl _ _) | (with_reducible assumption) | (with_reducible refine Below.trans ?_ (Below.mono (by assumption) (by first | omega | (· simp) | (· (simp; omega))))) | (with_reducible refine Below.trans ?_ (Kp.below (by assumption) (by first | omega | (· simp) | (· (simp; omega))) (by first | omega | (· simp) | (· (simp; omega)))))))⟩
  show _ = _
  rw [HSZ.out, HZ0.out]
  push_cast
  omega
theorem zc4 {e : E} (ht : e.Ty Tryd.prog 51) : Sz 66 e := by
  obtain ⟨A, c, l, rfl, h1, _⟩ := ht.lst_ Tryd.underlying51 (k := 1) (by kernel_rfl)
  exact szIntS_all' A c l h1
theorem zv13 : (Tryd.prog.info? 3).map (fun i => (i.zero, i.size, i.bytes)) = some (some (.int .i64 0), 1, 8) := by kernel_rfl
set_option maxRecDepth 100000 in
set_option maxHeartbeats 1000000 in
theorem zd4 {e : E} (ht : e.Ty Tryd.prog 51) : To 73 51 e := by
  obtain ⟨A, c, l, rfl, h1, h2⟩ := ht.lst_ Tryd.underlying51 (k := 1) (by kernel_rfl)
  intro w hr hsz
  have hs := hr.sl
  have hn : l.length ≤ 1048576 := by have e : (E.lst 1 3 A c l).sz = l.length + E.szL l := rfl; omega
  have hmk := zm5 Tryd.underlying51 zv13 l.length (by omega) (by omega)
  have hF := Fill.new w 3 #[.int .i64 0] l.length (E.encL l)
  have hxs := E.encL_len h2
  rw [Nat.mul_one] at hxs
  have HX := Lib.hid hxs
  have H1 := Lib.hid h1
  have H2 := Lib.hid h2
  clear hxs h1 h2
  change Calls _ _ #[.slice A l.length c] w _
  go_enter Tryd.func73, Tryd.ntmps73
  go_wp2
  go_loopw [4] (fun i wr => ∃ (k : Nat), k ≤ l.length ∧ i = .int .i64 k ∧ Fill wr w.heap.size 3 l.length k (E.encL l) ∧ Below w.heap.size w wr) (fun i _ => l.length - (intOf i).toNat)
  case atStart => exact ⟨0, Nat.zero_le _, rfl, hF, by exact (by repeat (first | (with_reducible refine Below.setCell ?_ (by first | omega | (· simp) | (· (simp; omega))) _) | (with_reducible refine Below.alloc ?_ (by first | omega | (· simp) | (· (simp; omega))) _) | (with_reducible refine Below.drew ?_) | (with_reducible refine zk ?_ _) | (with_reducible exact Below.refl _ _) | (with_reducible assumption) | (with_reducible refine Below.trans ?_ (Below.mono (by assumption) (by first | omega | (· simp) | (· (simp; omega))))) | (with_reducible refine Below.trans ?_ (Kp.below (by assumption) (by first | omega | (· simp) | (· (simp; omega))) (by first | omega | (· simp) | (· (simp; omega)))))))⟩
  case round =>
    obtain ⟨k, hk, rfl, hf, hb⟩ := hrel
    by_cases hlt : k < l.length
    · have hs' := hs.below hb (Nat.le_refl _)
      obtain ⟨b, o, rfl, _, hcell⟩ := hs'.at1 hlt
      have hx := E.encL_at H2.out k hlt 0 (by omega)
      obtain ⟨n, ex, gn⟩ := (H1.out _ (List.getElem_mem hlt)).int_ Tryd.underlying3
      have hcell := hcell _ (by rw [ex]; rfl)
      obtain ⟨u, hc2⟩ := hf.cell hlt
      have hf2 := hf.frozen k
      rw [Nat.mul_one, Nat.add_zero, ex] at hx
      have R := (hf.set hlt hx)
      clear hx hf ex
      go_wp2
      go_roundw
      case rel => exact ⟨k + 1, by omega, by go_num, R, hb.setCell (Nat.le_refl _) _⟩
      case measure => simp [intOf]; omega
    · have hk' : k = l.length := by omega
      subst hk'
      go_wp2
      go_ret
      have hfl : ∀ e ∈ l, e.fp = [] := fun e he => by
        obtain ⟨n, rfl, _⟩ := (H1.out e he).int_ Tryd.underlying3
        rfl
      refine ⟨.lst 1 3 (some ⟨w.heap.size, 0, none⟩) l.length l, rfl, za3.2 rfl, E.Ty.mk_lst Tryd.underlying51 (by kernel_rfl) H1.out H2.out, E.Ho.mk (Ow.of_owns (hf.owns (Nat.le_refl _) (Nat.mul_one _).symm HX.out (by unfold maxLen; omega)) (Nat.le_refl _)) H2.out (fun e he => ?_), ?_, hb⟩
      · obtain ⟨n, rfl, _⟩ := (H1.out e he).int_ Tryd.underlying3
        trivial
      · simp only [E.fp, E.fpL_nil hfl]; simp
set_option maxRecDepth 100000 in
set_option maxHeartbeats 1000000 in
theorem eqIntS_all' (A B : Option Addr) (c c' : Nat) (l m : List E) (h1 : ∀ y ∈ l, y.Ty Tryd.prog 3) (h2 : ∀ y ∈ m, y.Ty Tryd.prog 3) : Eq 81 (.lst 1 3 A c l) (.lst 1 3 B c' m) := by
  intro hd w hr hr'
  rw [za3] at hd
  have hs := hr.sl
  have hs' := hr'.sl
  have hml := zn5 hd
  have HD := Lib.hid hd
  clear hd
  have hlen := hs.len_le
  change Calls _ _ #[.slice A l.length c, .slice B m.length c'] w _
  obtain ⟨N, HN⟩ : ∃ N, Hid (m.length = N) := ⟨_, rfl⟩
  have hN : N = l.length := by have := HN.out; omega
  subst hN
  rw [HN.out]
  clear hml
  go_enter Tryd.func81, Tryd.ntmps81
  go_wp2
  go_loopw [5] (fun i wr => ∃ (k : Nat), k ≤ l.length ∧ i = .int .i64 k ∧ Below w.heap.size w wr) (fun i _ => l.length - (intOf i).toNat)
  case atStart => exact ⟨0, Nat.zero_le _, rfl, Below.refl _ _⟩
  case round =>
    obtain ⟨k, hk, rfl, hb⟩ := hrel
    by_cases hlt : k < l.length
    · have hltm : k < m.length := by have := HN.out; omega
      have hsb := hs.below hb (Nat.le_refl _)
      have hsb' := hs'.below hb (Nat.le_refl _)
      have hdk := d_at HD.out hlt hltm
      obtain ⟨b, o, rfl, _, hc⟩ := hsb.at_ hlt
      obtain ⟨b', o', rfl, _, hd⟩ := hsb'.at_ hltm
      obtain ⟨a, ea, ga⟩ := (h1 _ (List.getElem_mem hlt)).int_ Tryd.underlying3
      obtain ⟨a2, eb, gb⟩ := (h2 _ (List.getElem_mem hltm)).int_ Tryd.underlying3
      rw [ea, eb] at hdk
      simp only [E.d, E.int.injEq, E.str.injEq, true_and] at hdk
      subst hdk
      rw [ea] at hc
      rw [eb] at hd
      clear ea eb
      have c0 := hc 0 _ rfl
      have d0 := hd 0 _ rfl
      rw [Nat.add_zero, Nat.mul_one] at c0 d0
      clear hc hd
      go_wp2
      go_quiet (fail)
      go_wp2
      go_roundw
      case rel => exact ⟨k + 1, by omega, by go_num, by exact (by repeat (first | (with_reducible refine Below.setCell ?_ (by first | omega | (· simp) | (· (simp; omega))) _) | (with_reducible refine Below.alloc ?_ (by first | omega | (· simp) | (· (simp; omega))) _) | (with_reducible refine Below.drew ?_) | (with_reducible refine zk ?_ _) | (with_reducible exact Below.refl _ _) | (with_reducible assumption) | (with_reducible refine Below.trans ?_ (Below.mono (by assumption) (by first | omega | (· simp) | (· (simp; omega))))) | (with_reducible refine Below.trans ?_ (Kp.below (by assumption) (by first | omega | (· simp) | (· (simp; omega))) (by first | omega | (· simp) | (· (simp; omega)))))))⟩
      case measure => simp [intOf]; omega
    · go_wp2
      go_ret
      exact ⟨rfl, hb⟩
theorem ze4 {e e' : E} (ht : e.Ty Tryd.prog 51) (ht' : e'.Ty Tryd.prog 51) : Eq 81 e e' := by
  obtain ⟨A, c, l, rfl, h1, _⟩ := ht.lst_ Tryd.underlying51 (k := 1) (by kernel_rfl)
  obtain ⟨B, c', m, rfl, h2, _⟩ := ht'.lst_ Tryd.underlying51 (k := 1) (by kernel_rfl)
  exact eqIntS_all' A B c c' l m h1 h2
set_option maxRecDepth 100000 in
set_option maxHeartbeats 1000000 in
theorem szStringS_all' (A : Option Addr) (c : Nat) (l : List E) (ht : ∀ y ∈ l, y.Ty Tryd.prog 9) : Sz 118 (.lst 1 9 A c l) := by
  intro left w hr h0 h1
  have hs := hr.sl
  have hlen := hs.len_le
  have HSZ : Hid ((E.lst 1 9 A c l).sz = l.length + E.szL l) := rfl
  change Calls _ _ #[.slice A l.length c, .int .i64 left] w _
  by_cases hneg : left - l.length < 0
  · go_enter Tryd.func118, Tryd.ntmps118
    go_wp2
    go_ret
    exact ⟨-1, rfl, .inl (by omega), by omega, by exact (by repeat (first | (with_reducible refine Below.setCell ?_ (by first | omega | (· simp) | (· (simp; omega))) _) | (with_reducible refine Below.alloc ?_ (by first | omega | (· simp) | (· (simp; omega))) _) | (with_reducible refine Below.drew ?_) | (with_reducible refine zk ?_ _) | (with_reducible exact Below.refl _ _) | (with_reducible assumption) | (with_reducible refine Below.trans ?_ (Below.mono (by assumption) (by first | omega | (· simp) | (· (simp; omega))))) | (with_reducible refine Below.trans ?_ (Kp.below (by assumption) (by first | omega | (· simp) | (· (simp; omega))) (by first | omega | (· simp) | (· (simp; omega)))))))⟩
  go_enter Tryd.func118, Tryd.ntmps118
  go_wp2
  go_loopw [1, 5] (fun v i wr => ∃ (k : Nat) (cur : Int), k ≤ l.length ∧ i = .int .i64 k ∧ v = .int .i64 cur ∧ 0 ≤ cur ∧ cur ≤ left ∧ Hid (cur + E.szL (l.take k) + l.length = left) ∧ Below w.heap.size w wr) (fun _ i _ => l.length - (intOf i).toNat)
  case atStart => exact ⟨0, _, Nat.zero_le _, rfl, rfl, by omega, by omega, (by show _ = _; simp [E.szL]), Below.refl _ _⟩
  case round =>
    obtain ⟨k, cur, hk, rfl, rfl, hc0, hc1, HQ, hb⟩ := hrel
    have hzb := hb.size
    by_cases hlt : k < l.length
    · have hs' := hs.below hb (Nat.le_refl _)
      have HT := Lib.hid (E.szL_take l k hlt)
      obtain ⟨b, o, rfl, _, hc⟩ := hs'.at_ hlt
      obtain ⟨s, ex, gs⟩ := (ht _ (List.getElem_mem hlt)).str_ Tryd.underlying9
      rw [ex] at hc
      have c0 := hc 0 _ rfl
      rw [Nat.add_zero, Nat.mul_one] at c0
      clear hc
      have HEX := Lib.hid ex
      clear ex
      by_cases hn : cur - s.size < 0
      · go_wp2
        go_ret
        exact ⟨-1, rfl, .inl (by omega), by omega, by exact (by repeat (first | (with_reducible refine Below.setCell ?_ (by first | omega | (· simp) | (· (simp; omega))) _) | (with_reducible refine Below.alloc ?_ (by first | omega | (· simp) | (· (simp; omega))) _) | (with_reducible refine Below.drew ?_) | (with_reducible refine zk ?_ _) | (with_reducible exact Below.refl _ _) | (with_reducible assumption) | (with_reducible refine Below.trans ?_ (Below.mono (by assumption) (by first | omega | (· simp) | (· (simp; omega))))) | (with_reducible refine Below.trans ?_ (Kp.below (by assumption) (by first | omega | (· simp) | (· (simp; omega))) (by first | omega | (· simp) | (· (simp; omega)))))))⟩
      · go_wp2
        go_roundw
        case rel => exact ⟨k + 1, _, by omega, by go_num, rfl, by omega, by omega, (by show _ = _; have e1 := HQ.out; have e2 := HT.out; rw [HEX.out] at e2; simp only [E.sz] at e2; omega), by exact (by repeat (first | (with_reducible refine Below.setCell ?_ (by first | omega | (· simp) | (· (simp; omega))) _) | (with_reducible refine Below.alloc ?_ (by first | omega | (· simp) | (· (simp; omega))) _) | (with_reducible refine Below.drew ?_) | (with_reducible refine zk ?_ _) | (with_reducible exact Below.refl _ _) | (with_reducible assumption) | (with_reducible refine Below.trans ?_ (Below.mono (by assumption) (by first | omega | (· simp) | (· (simp; omega))))) | (with_reducible refine Below.trans ?_ (Kp.below (by assumption) (by first | omega | (· simp) | (· (simp; omega))) (by first | omega | (· simp) | (· (simp; omega)))))))⟩
        case measure => simp [intOf]; omega
    · have hk' : k = l.length := by omega
      subst hk'
      go_wp2
      go_ret
      refine ⟨_, rfl, .inr ?_, by omega, hb⟩
      show _ = _
      have e1 := HQ.out
      rw [List.take_length] at e1
      rw [HSZ.out]
      push_cast
      omega
theorem zp6 {e : E} (ht : e.Ty Tryd.prog 54) : Sz 118 e := by
  obtain ⟨A, c, l, rfl, h1, _⟩ := ht.lst_ Tryd.underlying54 (k := 1) (by kernel_rfl)
  exact szStringS_all' A c l h1
theorem zt7 : (Tryd.prog.info? 9).map (fun i => (i.zero, i.size, i.bytes)) = some (some (.string ByteArray.empty), 1, 16) := by kernel_rfl
set_option maxRecDepth 100000 in
set_option maxHeartbeats 1000000 in
theorem zq6 {e : E} (ht : e.Ty Tryd.prog 54) : To 124 54 e := by
  obtain ⟨A, c, l, rfl, h1, h2⟩ := ht.lst_ Tryd.underlying54 (k := 1) (by kernel_rfl)
  intro w hr hsz
  have hs := hr.sl
  have hn : l.length ≤ 1048576 := by have e : (E.lst 1 9 A c l).sz = l.length + E.szL l := rfl; omega
  have hmk := zm5 Tryd.underlying54 zt7 l.length (by omega) (by omega)
  have hF := Fill.new w 9 #[.string ByteArray.empty] l.length (E.encL l)
  have hxs := E.encL_len h2
  rw [Nat.mul_one] at hxs
  have HX := Lib.hid hxs
  have H1 := Lib.hid h1
  have H2 := Lib.hid h2
  clear hxs h1 h2
  change Calls _ _ #[.slice A l.length c] w _
  go_enter Tryd.func124, Tryd.ntmps124
  go_wp2
  go_loopw [4] (fun i wr => ∃ (k : Nat), k ≤ l.length ∧ i = .int .i64 k ∧ Fill wr w.heap.size 9 l.length k (E.encL l) ∧ Below w.heap.size w wr) (fun i _ => l.length - (intOf i).toNat)
  case atStart => exact ⟨0, Nat.zero_le _, rfl, hF, by exact (by repeat (first | (with_reducible refine Below.setCell ?_ (by first | omega | (· simp) | (· (simp; omega))) _) | (with_reducible refine Below.alloc ?_ (by first | omega | (· simp) | (· (simp; omega))) _) | (with_reducible refine Below.drew ?_) | (with_reducible refine zk ?_ _) | (with_reducible exact Below.refl _ _) | (with_reducible assumption) | (with_reducible refine Below.trans ?_ (Below.mono (by assumption) (by first | omega | (· simp) | (· (simp; omega))))) | (with_reducible refine Below.trans ?_ (Kp.below (by assumption) (by first | omega | (· simp) | (· (simp; omega))) (by first | omega | (· simp) | (· (simp; omega)))))))⟩
  case round =>
    obtain ⟨k, hk, rfl, hf, hb⟩ := hrel
    by_cases hlt : k < l.length
    · have hs' := hs.below hb (Nat.le_refl _)
      obtain ⟨b, o, rfl, _, hcell⟩ := hs'.at1 hlt
      have hx := E.encL_at H2.out k hlt 0 (by omega)
      obtain ⟨n, ex, gn⟩ := (H1.out _ (List.getElem_mem hlt)).str_ Tryd.underlying9
      have hcell := hcell _ (by rw [ex]; rfl)
      obtain ⟨u, hc2⟩ := hf.cell hlt
      have hf2 := hf.frozen k
      rw [Nat.mul_one, Nat.add_zero, ex] at hx
      have R := (hf.set hlt hx)
      clear hx hf ex
      go_wp2
      go_roundw
      case rel => exact ⟨k + 1, by omega, by go_num, R, hb.setCell (Nat.le_refl _) _⟩
      case measure => simp [intOf]; omega
    · have hk' : k = l.length := by omega
      subst hk'
      go_wp2
      go_ret
      have hfl : ∀ e ∈ l, e.fp = [] := fun e he => by
        obtain ⟨n, rfl, _⟩ := (H1.out e he).str_ Tryd.underlying9
        rfl
      refine ⟨.lst 1 9 (some ⟨w.heap.size, 0, none⟩) l.length l, rfl, za3.2 rfl, E.Ty.mk_lst Tryd.underlying54 (by kernel_rfl) H1.out H2.out, E.Ho.mk (Ow.of_owns (hf.owns (Nat.le_refl _) (Nat.mul_one _).symm HX.out (by unfold maxLen; omega)) (Nat.le_refl _)) H2.out (fun e he => ?_), ?_, hb⟩
      · obtain ⟨n, rfl, _⟩ := (H1.out e he).str_ Tryd.underlying9
        trivial
      · simp only [E.fp, E.fpL_nil hfl]; simp
set_option maxRecDepth 100000 in
set_option maxHeartbeats 1000000 in
theorem eqStringS_all' (A B : Option Addr) (c c' : Nat) (l m : List E) (h1 : ∀ y ∈ l, y.Ty Tryd.prog 9) (h2 : ∀ y ∈ m, y.Ty Tryd.prog 9) : Eq 128 (.lst 1 9 A c l) (.lst 1 9 B c' m) := by
  intro hd w hr hr'
  rw [za3] at hd
  have hs := hr.sl
  have hs' := hr'.sl
  have hml := zn5 hd
  have HD := Lib.hid hd
  clear hd
  have hlen := hs.len_le
  change Calls _ _ #[.slice A l.length c, .slice B m.length c'] w _
  obtain ⟨N, HN⟩ : ∃ N, Hid (m.length = N) := ⟨_, rfl⟩
  have hN : N = l.length := by have := HN.out; omega
  subst hN
  rw [HN.out]
  clear hml
  go_enter Tryd.func128, Tryd.ntmps128
  go_wp2
  go_loopw [5] (fun i wr => ∃ (k : Nat), k ≤ l.length ∧ i = .int .i64 k ∧ Below w.heap.size w wr) (fun i _ => l.length - (intOf i).toNat)
  case atStart => exact ⟨0, Nat.zero_le _, rfl, Below.refl _ _⟩
  case round =>
    obtain ⟨k, hk, rfl, hb⟩ := hrel
    by_cases hlt : k < l.length
    · have hltm : k < m.length := by have := HN.out; omega
      have hsb := hs.below hb (Nat.le_refl _)
      have hsb' := hs'.below hb (Nat.le_refl _)
      have hdk := d_at HD.out hlt hltm
      obtain ⟨b, o, rfl, _, hc⟩ := hsb.at_ hlt
      obtain ⟨b', o', rfl, _, hd⟩ := hsb'.at_ hltm
      obtain ⟨a, ea, ga⟩ := (h1 _ (List.getElem_mem hlt)).str_ Tryd.underlying9
      obtain ⟨a2, eb, gb⟩ := (h2 _ (List.getElem_mem hltm)).str_ Tryd.underlying9
      rw [ea, eb] at hdk
      simp only [E.d, E.int.injEq, E.str.injEq, true_and] at hdk
      subst hdk
      rw [ea] at hc
      rw [eb] at hd
      clear ea eb
      have c0 := hc 0 _ rfl
      have d0 := hd 0 _ rfl
      rw [Nat.add_zero, Nat.mul_one] at c0 d0
      clear hc hd
      go_wp2
      go_quiet (fail)
      go_wp2
      go_roundw
      case rel => exact ⟨k + 1, by omega, by go_num, by exact (by repeat (first | (with_reducible refine Below.setCell ?_ (by first | omega | (· simp) | (· (simp; omega))) _) | (with_reducible refine Below.alloc ?_ (by first | omega | (· simp) | (· (simp; omega))) _) | (with_reducible refine Below.drew ?_) | (with_reducible refine zk ?_ _) | (with_reducible exact Below.refl _ _) | (with_reducible assumption) | (with_reducible refine Below.trans ?_ (Below.mono (by assumption) (by first | omega | (· simp) | (· (simp; omega))))) | (with_reducible refine Below.trans ?_ (Kp.below (by assumption) (by first | omega | (· simp) | (· (simp; omega))) (by first | omega | (· simp) | (· (simp; omega)))))))⟩
      case measure => simp [intOf]; omega
    · go_wp2
      go_ret
      exact ⟨rfl, hb⟩
theorem zr6 {e e' : E} (ht : e.Ty Tryd.prog 54) (ht' : e'.Ty Tryd.prog 54) : Eq 128 e e' := by
  obtain ⟨A, c, l, rfl, h1, _⟩ := ht.lst_ Tryd.underlying54 (k := 1) (by kernel_rfl)
  obtain ⟨B, c', m, rfl, h2, _⟩ := ht'.lst_ Tryd.underlying54 (k := 1) (by kernel_rfl)
  exact eqStringS_all' A B c c' l m h1 h2
theorem zy2 {e : E} (h : e.Ty Tryd.prog 182) : ∃ (x0 : Int) (x1 : Int) (x2 : ByteArray), e = (E.agg [.int .i64 x0, .int .i64 x1, .str x2]) ∧ ((Lit.int .i64 x0).wf = true) ∧ ((Lit.int .i64 x1).wf = true) ∧ (x2.size ≤ 9223372036854775807) ∧ True := by
  obtain ⟨fs, rfl, q0⟩ := h.agg_ Tryd.underlying182
  change E.TyF _ _ [3, 3, 9] at q0
  obtain ⟨e0, r0, rfl, h0, q1⟩ := q0.cons_
  obtain ⟨e1, r1, rfl, h1, q2⟩ := q1.cons_
  obtain ⟨e2, r2, rfl, h2, q3⟩ := q2.cons_
  obtain rfl := q3.nil_
  obtain ⟨x0, rfl, gx0⟩ := h0.int_ Tryd.underlying3
  obtain ⟨x1, rfl, gx1⟩ := h1.int_ Tryd.underlying3
  obtain ⟨x2, rfl, gx2⟩ := h2.str_ Tryd.underlying9
  exact ⟨x0, x1, x2, rfl, gx0, gx1, gx2, trivial⟩
theorem zk2 {e : E} (h : e.Ty Tryd.prog 113) : ∃ (x0 : Int) (x1 : Int) (x2 : ByteArray), e = (E.agg [.int .i64 x0, .int .i64 x1, .str x2]) ∧ ((Lit.int .i64 x0).wf = true) ∧ ((Lit.int .i64 x1).wf = true) ∧ (x2.size ≤ 9223372036854775807) ∧ True := by
  obtain ⟨fs, rfl, q0⟩ := h.agg_ Tryd.underlying113
  change E.TyF _ _ [3, 3, 9] at q0
  obtain ⟨e0, r0, rfl, h0, q1⟩ := q0.cons_
  obtain ⟨e1, r1, rfl, h1, q2⟩ := q1.cons_
  obtain ⟨e2, r2, rfl, h2, q3⟩ := q2.cons_
  obtain rfl := q3.nil_
  obtain ⟨x0, rfl, gx0⟩ := h0.int_ Tryd.underlying3
  obtain ⟨x1, rfl, gx1⟩ := h1.int_ Tryd.underlying3
  obtain ⟨x2, rfl, gx2⟩ := h2.str_ Tryd.underlying9
  exact ⟨x0, x1, x2, rfl, gx0, gx1, gx2, trivial⟩
set_option maxRecDepth 100000 in
set_option maxHeartbeats 1000000 in
theorem zw13 {e : E} (ht : e.Ty Tryd.prog 182) : Sz 160 e := by
  obtain ⟨x0, x1, x2, rfl, gx0, gx1, gx2, -⟩ := zy2 ht
  intro left w hr h0 h1
  have HSZ : Hid ((E.agg [.int .i64 x0, .int .i64 x1, .str x2]).sz = (0 + (0 + (x2.size + 0)))) := rfl
  change Calls _ _ #[.agg #[.int .i64 x0, .int .i64 x1, .string x2], .int .i64 left] w _
  go_enter Tryd.func160, Tryd.ntmps160
  by_cases hn1 : left - x2.size < 0
  · go_wp2
    go_ret
    exact ⟨-1, rfl, .inl (by omega), by omega, by exact (by repeat (first | (with_reducible refine Below.setCell ?_ (by first | omega | (· simp) | (· (simp; omega))) _) | (with_reducible refine Below.alloc ?_ (by first | omega | (· simp) | (· (simp; omega))) _) | (with_reducible refine Below.drew ?_) | (with_reducible refine zk ?_ _) | (with_reducible exact Below.refl _ _) | (with_reducible assumption) | (with_reducible refine Below.trans ?_ (Below.mono (by assumption) (by first | omega | (· simp) | (· (simp; omega))))) | (with_reducible refine Below.trans ?_ (Kp.below (by assumption) (by first | omega | (· simp) | (· (simp; omega))) (by first | omega | (· simp) | (· (simp; omega)))))))⟩
  go_wp2
  go_ret
  refine ⟨_, rfl, .inr ?_, by omega, by exact (by repeat (first | (with_reducible refine Below.setCell ?_ (by first | omega | (· simp) | (· (simp; omega))) _) | (with_reducible refine Below.alloc ?_ (by first | omega | (· simp) | (· (simp; omega))) _) | (with_reducible refine Below.drew ?_) | (with_reducible refine zk ?_ _) | (with_reducible exact Below.refl _ _) | (with_reducible assumption) | (with_reducible refine Below.trans ?_ (Below.mono (by assumption) (by first | omega | (· simp) | (· (simp; omega))))) | (with_reducible refine Below.trans ?_ (Kp.below (by assumption) (by first | omega | (· simp) | (· (simp; omega))) (by first | omega | (· simp) | (· (simp; omega)))))))⟩
  show _ = _
  rw [HSZ.out]
  push_cast
  omega
set_option maxRecDepth 100000 in
set_option maxHeartbeats 1000000 in
theorem zx13 {e : E} (ht : e.Ty Tryd.prog 182) : To 163 113 e := by
  have HT0 := Lib.hid ht
  obtain ⟨x0, x1, x2, rfl, gx0, gx1, gx2, -⟩ := zy2 ht
  intro w hr hsz
  have hsz' : (0 + (0 + (x2.size + 0))) ≤ 1048576 := hsz
  clear hsz hsz'
  change Calls _ _ #[.agg #[.int .i64 x0, .int .i64 x1, .string x2]] w _
  go_enter Tryd.func163, Tryd.ntmps163
  go_wp2
  refine bodyPost_ret (v := .agg #[.int .i64 x0, .int .i64 x1, .string x2]) (by simp [results, Tryd.results163, go_sem]) rfl ⟨(E.agg [.int .i64 x0, .int .i64 x1, .str x2]), rfl, rfl, E.Ty.mk_agg Tryd.underlying113 (E.TyF.mk_cons (show E.Ty _ _ _ from ⟨Tryd.underlying3, gx0⟩) (E.TyF.mk_cons (show E.Ty _ _ _ from ⟨Tryd.underlying3, gx1⟩) (E.TyF.mk_cons (show E.Ty _ _ _ from ⟨Tryd.underlying9, by unfold maxLen; exact gx2⟩) (E.TyF.mk_nil)))), ?_, ?_, by exact (by repeat (first | (with_reducible refine Below.setCell ?_ (by first | omega | (· simp) | (· (simp; omega))) _) | (with_reducible refine Below.alloc ?_ (by first | omega | (· simp) | (· (simp; omega))) _) | (with_reducible refine Below.drew ?_) | (with_reducible refine zk ?_ _) | (with_reducible exact Below.refl _ _) | (with_reducible assumption) | (with_reducible refine Below.trans ?_ (Below.mono (by assumption) (by first | omega | (· simp) | (· (simp; omega))))) | (with_reducible refine Below.trans ?_ (Kp.below (by assumption) (by first | omega | (· simp) | (· (simp; omega))) (by first | omega | (· simp) | (· (simp; omega)))))))⟩
  · simp [E.Ho, E.HoL]
  · simp [E.fp, E.fpL]
set_option maxRecDepth 100000 in
set_option maxHeartbeats 1000000 in
theorem zy13 {e e' : E} (ht : e.Ty Tryd.prog 113) (ht' : e'.Ty Tryd.prog 113) : Eq 167 e e' := by
  obtain ⟨x0, x1, x2, rfl, gx0, gx1, gx2, -⟩ := zk2 ht
  obtain ⟨y0, y1, y2, rfl, gy0, gy1, gy2, -⟩ := zk2 ht'
  intro hd w hr hr'
  simp only [E.d, E.dL, E.agg.injEq, List.cons.injEq, E.int.injEq, E.str.injEq, E.bool.injEq, E.lst.injEq, true_and, and_true] at hd
  obtain ⟨rfl, rfl, rfl⟩ := hd
  change Calls _ _ #[.agg #[.int .i64 x0, .int .i64 x1, .string x2], .agg #[.int .i64 x0, .int .i64 x1, .string x2]] w _
  go_enter Tryd.func167, Tryd.ntmps167
  go_wp2
  go_ret
  exact ⟨rfl, (by repeat (first | (with_reducible refine Below.setCell ?_ (by first | omega | (· simp) | (· (simp; omega))) _) | (with_reducible refine Below.alloc ?_ (by first | omega | (· simp) | (· (simp; omega))) _) | (with_reducible refine Below.drew ?_) | (with_reducible refine zk ?_ _) | (with_reducible exact Below.refl _ _) | (with_reducible assumption) | (with_reducible refine Below.trans ?_ (Below.mono (by assumption) (by first | omega | (· simp) | (· (simp; omega))))) | (with_reducible refine Below.trans ?_ (Kp.below (by assumption) (by first | omega | (· simp) | (· (simp; omega))) (by first | omega | (· simp) | (· (simp; omega)))))))⟩
end Go.Proofs.YtfemkmnkofgaaaaDoor
