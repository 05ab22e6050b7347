/- slices.Delete of one entry: what it does to a row that is held. -/
import Derived.Test.YtfnnbjkjfoiboaaAG
import Derived.Test.YtfnnbjkjfoiboaaFamEntry
import Derived.Lib.SliceRun
import Derived.StillTailTactics
namespace Go.Proofs.Ytfnnbjkjfoiboaa
open Go.RowKit
set_option maxRecDepth 100000
theorem delete_run (w : World) (g n cap i : Nat) (cur : Array Value) (us : List Value) (hi : i < n) (hn : n ≤ cap) (hc : cap ≤ maxLen) (hh : w.heap[g]? = some (.cells cur 116 (0, 0))) (hs : cur.size = cap * 4) (h1 : ∀ u ∈ cur.toList.take (n * 4), u.oneCell' = true) :
    Calls Try.prog 105 #[.slice (some ⟨g, 0, none⟩) n cap, .int .i64 i, .int .i64 ((i : Int) + 1)] w fun e w' => e = .returned (.slice (some ⟨g, 0, none⟩) (n - 1) cap) ∧
      ∃ cur', Stp (some g) w w' ∧ w'.heap[g]? = some (.cells cur' 116 (0, 0)) ∧ cur'.size = cap * 4 ∧ cur'.toList.take ((n - 1) * 4) = cur.toList.take (i * 4) ++ ((cur.toList.take (n * 4)).drop ((i + 1) * 4)) := by
  go_enter Try.func105, Try.ntmps105
  unfold maxLen at hc
  have a1 : (i : Int) + 1 ≤ n := by omega
  have a2 : (n : Int) ≤ cap := by omega
  have a3 : (0 : Int) ≤ i := by omega
  have a4 : (i : Int) ≤ (i : Int) + 1 := by omega
  have a5 : ((i : Int) == (i : Int) + 1) = false := by simp; omega
  have a6 : (i : Int) ≤ cap := by omega
  have a7 : (0 : Int) ≤ (i : Int) + 1 := by omega
  have hl0 : (cur.toList.take (n * 4)).length = n * 4 := by
    rw [List.length_take, Array.length_toList, hs]
    exact Nat.min_eq_left (Nat.mul_le_mul_right 4 hn)
  have hsrc : ((cur.toList.take (n * 4)).drop ((i + 1) * 4)).length = (n - (i + 1)) * 4 := by
    rw [List.length_drop, hl0, ← Nat.sub_mul]
  have hcell : ∀ j v, ((cur.toList.take (n * 4)).drop ((i + 1) * 4))[j]? = some v → w.drew.cell? ((⟨g, (i + 1) * 4, none⟩ : Addr).add j) = some v := by
    intro j v hv
    rw [List.getElem?_drop] at hv
    have hlt : (i + 1) * 4 + j < n * 4 := by
      have := (List.getElem?_eq_some_iff.1 hv).1
      omega
    rw [List.getElem?_take_of_lt hlt, Array.getElem?_toList] at hv
    rw [Addr.add_lit]
    simp only [World.cell?]
    have hh' : w.drew.heap[g]? = some (.cells cur 116 (0, 0)) := hh
    rw [hh']
    exact hv
  have hld : (loadCellsFrom (⟨g, (i + 1) * 4, none⟩ : Addr) 0 ((n - (i + 1)) * 4) #[]).run Try.prog w.drew = .ok ((cur.toList.take (n * 4)).drop ((i + 1) * 4)).toArray w.drew := by
    have := run_loadCells_list (P := Try.prog) w.drew _ _ hcell
    rw [hsrc] at this
    exact this
  have hst := run_storeCells_at Try.prog g (i * 4) 116 ((cur.toList.take (n * 4)).drop ((i + 1) * 4)) 0 cur w.drew hh (by rw [hsrc, hs]; omega) (fun u hu => h1 u (List.mem_of_mem_drop hu))
  simp only [Nat.add_zero] at hst
  obtain ⟨c1, hc1⟩ : ∃ c1, c1 = (cur.toList.take (i * 4) ++ (cur.toList.take (n * 4)).drop ((i + 1) * 4) ++ cur.toList.drop (i * 4 + ((cur.toList.take (n * 4)).drop ((i + 1) * 4)).length)).toArray := ⟨_, rfl⟩
  rw [← hc1] at hst
  have hs1 : c1.size = cap * 4 := by
    rw [hc1]
    simp only [List.size_toArray, List.length_append, List.length_take, List.length_drop, Array.length_toList, hs, hl0]
    omega
  have hh1 : (w.drew.setRow g c1).heap[g]? = some (.cells c1 116 (0, 0)) := setRow_heap _ g cur _ _ _ hh
  have e3 : i + (n - (i + 1)) = n - 1 := by omega
  have e4 : n - (n - 1) = 1 := by omega
  obtain ⟨c2, hc2⟩ : ∃ c2, c2 = (c1.toList.take ((n - 1) * 4) ++ [Value.string ByteArray.empty, .int .i64 0, .int .i64 0, .string ByteArray.empty] ++ c1.toList.drop ((n - 1) * 4 + 4)).toArray := ⟨_, rfl⟩
  have hclr : ∀ c, (Builtin.clear_ #[112] 0 #[.slice (some ⟨g, (n - 1) * 4, none⟩) 1 c]).run Try.prog (w.drew.setRow g c1) = .ok (.tuple #[]) ((w.drew.setRow g c1).setRow g c2) := by
    intro c
    have hz : ∀ W, (zeroValue 116).run Try.prog W = .ok (.agg #[.string ByteArray.empty, .int .i64 0, .int .i64 0, .string ByteArray.empty]) W := fun W => by
      simp [zeroValue, typeInfo]; rfl
    have hst2 := run_storeCells_at Try.prog g ((n - 1) * 4) 116 [Value.string ByteArray.empty, .int .i64 0, .int .i64 0, .string ByteArray.empty] 0 c1 (w.drew.setRow g c1) hh1 (by rw [hs1]; simp; omega) (by intro v hv; simp at hv; rcases hv with rfl | rfl | rfl | rfl <;> rfl)
    simp only [Nat.add_zero] at hst2
    have hzc : (Builtin.zeroCells (Value.agg #[.string ByteArray.empty, .int .i64 0, .int .i64 0, .string ByteArray.empty]).cells 1).toList = [Value.string ByteArray.empty, .int .i64 0, .int .i64 0, .string ByteArray.empty] := by
      kernel_rfl
    simp only [List.length_cons, List.length_nil, Nat.zero_add, Nat.reduceAdd, ← hc2] at hst2
    simp [Builtin.clear_, run_underlying Try.underlying112, hz, hzc, hst2]
  have hfin : Stp (some g) w ((w.drew.setRow g c1).setRow g c2) ∧ ((w.drew.setRow g c1).setRow g c2).heap[g]? = some (.cells c2 116 (0, 0)) ∧ c2.size = cap * 4 ∧ c2.toList.take ((n - 1) * 4) = cur.toList.take (i * 4) ++ ((cur.toList.take (n * 4)).drop ((i + 1) * 4)) := by
    refine ⟨⟨rfl, rfl, rfl, by simp, fun j hj hn => ?_⟩, setRow_heap _ g c1 _ _ _ hh1, ?_, ?_⟩
    · have hjg : j ≠ g := fun e => hn (by rw [e])
      rw [setRow_other _ g j c2 hjg, setRow_other _ g j c1 hjg]; rfl
    · rw [hc2]
      simp only [List.size_toArray, List.length_append, List.length_take, List.length_drop, Array.length_toList, hs1, List.length_cons, List.length_nil]
      omega
    · have h4 : (c1.toList.take ((n - 1) * 4)).length = (n - 1) * 4 := by
        rw [List.length_take, Array.length_toList, hs1]; omega
      rw [hc2, List.append_assoc, List.take_left' h4, hc1, List.take_left']
      rw [List.length_append, hsrc, List.length_take, Array.length_toList, hs]
      omega
  clear hc1 hc2 hsrc hcell hl0 hs1
  rcases Nat.lt_or_ge (i + 1) cap with hlt | hge
  · have a8 : ¬ cap = i + 1 := by omega
    go_wp2
    go_still_tail 6, (by kernel_rfl)
    go_wp2
    go_ret
    exact ⟨rfl, c2, hfin⟩
  · obtain rfl : n = i + 1 := by omega
    obtain rfl : cap = i + 1 := by omega
    have e5 : i + 1 - (i + 1) = 0 := by omega
    rw [e5, Nat.zero_mul] at hld
    have hld0 : (cur.toList.take ((i + 1) * 4)).drop ((i + 1) * 4) = [] := List.drop_eq_nil_of_le (by rw [List.length_take]; omega)
    rw [hld0] at hst
    have e6 : ∀ W : World, (loadCellsFrom (⟨g, 0, none⟩ : Addr) 0 0 #[]).run Try.prog W = .ok #[] W := fun W => by simp [loadCellsFrom]
    have hw : w.drew.setRow g c1 = w.drew := by
      have : (storeCells (⟨g, i * 4, none⟩ : Addr) []).run Try.prog w.drew = .ok () w.drew := by simp [storeCells]
      rw [this] at hst
      injection hst with _ hst
      exact hst.symm
    rw [hw] at hfin hst
    simp only [hw, Nat.add_sub_cancel] at hclr hfin e3 e4 ⊢
    clear hw
    go_wp2
    go_still_tail 6, (by kernel_rfl)
    go_wp2
    go_ret
    exact ⟨rfl, c2, hfin⟩
/-- slices.Delete, of one entry that is there. -/
theorem delete_c {l : List AC} {n i : Nat} {z : Int} (hz : z = (i : Int) + 1) (hl : l.length = n * 4) (hnu : l.all noUn = true) (hi : i < n) : CtrT Try.prog 105 [.c .un, .c (.v (.int .i64 i)), .c (.v (.int .i64 z))] 0 116 4 n l (.c (.ow 116 (n - 1) 4 (l.take (i * 4) ++ l.drop ((i + 1) * 4)))) none := by
  subst hz
  refine ⟨by kernel_rfl, fun w St us A hE => ?_⟩
  obtain ⟨u, vs, fs, hu, g1, ⟨hlen, ⟨_, h0⟩ | ⟨g, cap, cur, rfl, _, hh, hn, hc, hs, ht⟩⟩, hA⟩ := hE.row
  · omega
  have hargs := hE.args
  simp only [VRL] at hargs
  obtain ⟨a0, r0, rfl, _, a1, r1, rfl, h1, a2, r2, rfl, h2, rfl⟩ := hargs
  simp only [VR, CR] at h1 h2
  obtain ⟨rfl, -⟩ := h1
  obtain ⟨rfl, -⟩ := h2
  have hu' : a0 = .slice (some ⟨g, 0, none⟩) n cap := by simpa using hu
  subst hu'
  have hone := g1.one hnu
  refine (delete_run w g n cap i cur vs hi hn hc hh hs (by rw [ht]; exact hone)).mono ?_
  rintro e w' ⟨rfl, cur', hstp, hh', hs', ht'⟩
  rw [ht] at ht'
  obtain ⟨us1, us2, f1, f2, e1, e2, q1, q2⟩ := CRL.split (l := l.take ((i + 1) * 4)) (r := l.drop ((i + 1) * 4)) (by rw [List.take_append_drop]; exact g1)
  have hle : (i + 1) * 4 ≤ n * 4 := Nat.mul_le_mul_right 4 (show i + 1 ≤ n from hi)
  have hl1 : us1.length = (i + 1) * 4 := by rw [q1.len, List.length_take]; omega
  obtain ⟨us3, us4, f3, f4, e3, e4, q3, q4⟩ := CRL.split (l := l.take (i * 4)) (r := (l.take ((i + 1) * 4)).drop (i * 4)) (by
    have : l.take (i * 4) = (l.take ((i + 1) * 4)).take (i * 4) := by rw [List.take_take, Nat.min_eq_left (Nat.mul_le_mul_right 4 (by omega))]
    rw [this, List.take_append_drop]; exact q1)
  have hl3 : us3.length = i * 4 := by rw [q3.len, List.length_take]; omega
  have hres : vs.take (i * 4) ++ vs.drop ((i + 1) * 4) = us3 ++ us2 := by
    rw [e1, List.drop_left' hl1, List.take_append_of_le_length (by rw [hl1]; exact Nat.mul_le_mul_right 4 (by omega)), e3, List.take_left' hl3]
  have htk : cur.toList.take (i * 4) = vs.take (i * 4) := by rw [← ht, List.take_take, Nat.min_eq_left (Nat.mul_le_mul_right 4 (Nat.le_of_lt hi))]
  rw [htk, hres] at ht'
  have hblk : ∀ b, b < w.heap.size → b ≠ g → w'.heap[b]? = w.heap[b]? := fun b hb hne => hstp.blk b hb (fun e => hne (by injection e))
  have hnd := hE.nod
  subst hA
  have hob : obl (.slice (some ⟨g, 0, none⟩) n cap) = [g] := rfl
  rw [hob] at hnd
  have hnd' := List.nodup_cons.1 (by simpa using hnd)
  have hfs : ∀ b ∈ f3 ++ f2, b ∈ fs := fun b hb => by
    rw [e2, e4]
    rcases List.mem_append.1 hb with h | h
    · exact List.mem_append_left _ (List.mem_append_left _ h)
    · exact List.mem_append_right _ h
  have hkeep : ∀ b ∈ f3 ++ f2, w'.heap[b]? = w.heap[b]? := fun b hb => hblk b (g1.lt b (hfs b hb)) fun e => hnd'.1 (e ▸ hfs b hb)
  have hcr : CRL w' (fun b => St b ∧ b < w.heap.size) φ0 K0 (l.take (i * 4) ++ l.drop ((i + 1) * 4)) (us3 ++ us2) (f3 ++ f2) := (q3.app q2).mono (fun b hb hlt => ⟨⟨hb, hlt⟩, hblk b hlt fun e => by
    subst e; exact hE.st b (by rw [hob]; simp) hb⟩) hstp.size (fun i hi => ⟨hi, rfl⟩) hkeep
  refine ⟨_, fun b => St b ∧ b < w.heap.size, g :: (f3 ++ f2), [], rfl, ⟨hstp.os, hstp.tape, hstp.output, hstp.size, fun b hb hn => .inl (hblk b hb fun e => hn (by rw [hob, e]; simp))⟩, ?_, fun cs' hc' => (by cases hc'), ?_, fun b hb => .inl ?_⟩
  · simp only [VRF, CR]
    refine ⟨_, _, hcr, ⟨?_, .inr ⟨g, cap, cur', rfl, Nat.zero_le _, hh', by omega, hc, hs', ht'⟩⟩, rfl⟩
    rw [List.length_append, hl3, q2.len, List.length_drop, hl]; omega
  · rw [List.append_nil]
    refine List.nodup_cons.2 ⟨fun hm => hnd'.1 (hfs g hm), ?_⟩
    have := hnd'.2
    rw [e2, e4, List.append_assoc] at this
    obtain ⟨n1, n2, n3⟩ := List.nodup_append.1 this
    obtain ⟨_, m2, _⟩ := List.nodup_append.1 n2
    exact List.nodup_append.2 ⟨n1, m2, fun a ha b hb => n3 a ha b (List.mem_append_right _ hb)⟩
  · rw [List.append_nil] at hb
    rw [hob]
    rcases List.mem_cons.1 hb with rfl | hb
    · simp
    · simp [hfs b hb]
end Go.Proofs.Ytfnnbjkjfoiboaa
