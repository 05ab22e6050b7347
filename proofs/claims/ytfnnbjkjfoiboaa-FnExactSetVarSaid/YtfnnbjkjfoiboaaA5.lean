/- The abstract machine, five: append; new rows. -/
import Derived.Test.YtfnnbjkjfoiboaaA4
import Derived.Laws.AppendOwnNone
namespace Go.Proofs.Ytfnnbjkjfoiboaa
open Go.RowKit

theorem obl_none {u : Value} : obl (.slice none 0 0) = [] ∧ (∀ g n c, obl (.slice (some ⟨g, 0, none⟩) n c) = [g]) := ⟨rfl, fun _ _ _ => rfl⟩
section
variable {P : Program} {w : World}
/-- append onto what is held: the source's cells are 'news'. -/
theorem run_app {t t2 ty e : TypeId} {i : TypeInfo} {z : Value} {d2 : TypeDesc} (ht : P.underlying t = some (.slice e)) (ht2 : P.underlying t2 = some d2) (hd2 : (∃ e', d2 = .slice e') ∨ d2 = .string) (hi : P.info? e = some i) (hz : i.zero = some z) (hzs : z.cells.size = i.size) (h0 : 0 < i.size)
    {x : Value} {m : Nat} {news : List Value} (hlen : ∀ W : World, (Builtin.lenOf x).run P W = .ok m W) (hf : ∀ W : World, W.heap = w.heap → (Builtin.firstCells i.size m x).run P W = .ok news.toArray W) (hl : news.length = m * i.size) (h1 : ∀ u ∈ news, u.oneCell' = true)
    {v : Value} {n : Nat} {us : List Value} (hown : w.ownsRow 0 e i.size v n us) (h63 : n + m ≤ maxLen) (hb : (n + m) * i.bytes ≤ 140737488355328) :
    ∃ v' w', (Builtin.append_ #[t, t2] ty #[v, x]).run P w = .ok v' w' ∧ w'.ownsRow 0 e i.size v' (n + m) (us ++ news) ∧ Stp v.ownBlock w w' ∧ (∀ b ∈ obl v', b ∈ obl v ∨ w.heap.size ≤ b) := by
  rcases hd2 with ⟨e', rfl⟩ | rfl
  all_goals
    have hlen2 : (us ++ news).length = (n + m) * i.size := by rw [List.length_append, hown.1, hl, Nat.add_mul]
    have hsmall : n + m ≤ 9223372036854775807 := by simp only [maxLen] at h63; omega
    have hfd : (Builtin.firstCells i.size m x).run P w.drew = .ok news.toArray w.drew := hf _ rfl
    have hfw := hf w rfl
    have h63' : ¬ (9223372036854775807 < ((n : Int) + (m : Int))) := by omega
    have grown : ∀ (old : Nat), old < n + m →
        (w.drew.alloc (.cells (us.toArray ++ news.toArray ++ Builtin.zeroCells z.cells (grownCap w (n + m) old e - (n + m))) e)).ownsRow 0 e i.size
          (.slice (some ⟨w.heap.size, 0, none⟩) (n + m) (grownCap w (n + m) old e)) (n + m) (us ++ news) := by
      intro old ho
      have hge := grownCap_ge w (n + m) old e
      have hcm : grownCap w (n + m) old e ≤ maxLen := grownCap_le_maxLen w (n + m) old e h63
      refine ⟨hlen2, .inr ⟨w.heap.size, _, _, rfl, Nat.zero_le _, heap_alloc_new w.drew _, hge, hcm, ?_, ?_⟩⟩
      · simp only [Array.size_append, List.size_toArray, size_zeroCells, hzs, hown.1, hl, ← Nat.add_mul]
        congr 1
        omega
      · simp only [Array.toList_append, List.append_assoc]
        rw [← List.append_assoc, ← hlen2]
        exact List.take_left
    have hst : ∀ (o : Obj) (b : Option Nat), Stp b w (w.drew.alloc o) := fun o b => ⟨rfl, rfl, rfl, by simp, fun k hk _ => Below.heap_alloc w.drew o k (by simpa using hk)⟩
    rcases id hown.2 with ⟨rfl, rfl⟩ | ⟨g, cap, cur, rfl, _, hg, hnc, hcm, hcs, htake⟩
    · have hx : us = [] := List.eq_nil_of_length_eq_zero (by simpa using hown.1)
      subst hx
      by_cases hm : m = 0
      · subst hm
        have hn : news = [] := List.eq_nil_of_length_eq_zero (by simpa using hl)
        subst hn
        refine ⟨.slice none 0 0, w, ?_, World.ownsRow_nil w 0 e i.size, Stp.refl _ _, by simp [obl, Value.ownBlock]⟩
        simp [Builtin.append_, run_underlying ht, run_underlying ht2, sizeOf, typeInfo, hi, hlen, hfw]
      · have h48' : ¬ (281474976710656 < Builtin.nextslicecap m 0 * i.bytes) := by
          rw [nextslicecap_zero (by omega)]; have hb' := hb; rw [Nat.zero_add] at hb'; omega
        have h63'' : ¬ (9223372036854775807 < (m : Int)) := by omega
        have hgr := grown 0 (by omega)
        refine ⟨.slice (some ⟨w.heap.size, 0, none⟩) (0 + m) (grownCap w (0 + m) 0 e), _, ?_, hgr, hst _ _, fun b hb => .inr (by simp [obl, Value.ownBlock] at hb; omega)⟩
        simp [Builtin.append_, run_underlying ht, run_underlying ht2, sizeOf, typeInfo, zeroValue, hi, hz, hlen, hm, h63'', h48', Question.forced, run_firstCells_none, hfd, newRow, grownCap]
    · by_cases hroom : n + m ≤ cap
      · have hcell : ∀ j y, us[j]? = some y → w.cell? ((⟨g, 0, none⟩ : Addr).add j) = some y := hown.cells (g := g) rfl
        have hfit : n * i.size + 0 + news.length ≤ cur.size := by rw [hl, hcs, Nat.add_zero, ← Nat.add_mul]; exact Nat.mul_le_mul_right _ hroom
        have hstc := run_storeCells_at P g (n * i.size) e news 0 cur w hg hfit h1
        refine ⟨.slice (some ⟨g, 0, none⟩) (n + m) cap, w.setRow g (cur.toList.take (n * i.size + 0) ++ news ++ cur.toList.drop (n * i.size + 0 + news.length)).toArray, ?_, ⟨hlen2, .inr ⟨g, cap, _, rfl, Nat.zero_le _, setRow_heap w g cur _ e _ hg, hroom, hcm, ?_, ?_⟩⟩, Stp.setRow w g _, fun b hb => .inl hb⟩
        · simp [Builtin.append_, run_underlying ht, run_underlying ht2, sizeOf, typeInfo, hi, hlen, hroom, hfw, Addr.add_lit]
          rw [hstc]
          simp
        · simp only [List.size_toArray, List.length_append, List.length_take, List.length_drop, Array.length_toList]
          omega
        · rw [Nat.add_zero, htake, ← hlen2]
          exact List.take_left
      · have hcell : ∀ j y, us[j]? = some y → w.drew.cell? ((⟨g, 0, none⟩ : Addr).add j) = some y := hown.cells (g := g) rfl
        have hfo := run_firstCells_some (P := P) w.drew i.size n ⟨g, 0, none⟩ n cap us hown.1 hcell
        have h48' : ¬ (281474976710656 < Builtin.nextslicecap (n + m) cap * i.bytes) := by have := growslice_fits (need := n + m) (old := cap) (bytes := i.bytes) (by omega) hb; omega
        refine ⟨_, _, ?_, grown cap (by omega), hst _ _, fun b hb => .inr (by simp [obl, Value.ownBlock] at hb; omega)⟩
        simp [Builtin.append_, run_underlying ht, run_underlying ht2, sizeOf, typeInfo, zeroValue, hi, hz, hlen, hroom, h63', h48', Question.forced, hfd, hfo, newRow, grownCap]
        congr 2
        apply Array.ext'
        simp [List.append_assoc]
end
end Go.Proofs.Ytfnnbjkjfoiboaa
