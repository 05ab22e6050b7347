/- impl.SplitText: strings.FieldsFunc (its contract is the shelf's, laid at this program by the shelf's own two tools) with the closure 'blank or tab'. -/
import Derived.Test.YtfdjognmechcfaaFieldsPlain
import Derived.Shelf.Strings.FieldsFuncAny
namespace Go.Proofs.Ytfdjognmechcfaa
open Go.RowKit Go.Shelf

def lays229_ren : Go.Shelf.Ren := ⟨fun | 229 => 69 | n => n, fun | 9 => 9 | 40 => 98 | 31 => 22 | 152 => 122 | 3 => 3 | 0 => 0 | 4 => 4 | 21 => 21 | 154 => 124 | n => n, fun | n => n⟩
theorem lays229 : Go.Proofs.Lays.n229 Try.prog lays229_ren := {
  mixed := by kernel_rfl
  f229 := Try.func69.trans (congrArg some (by kernel_rfl))
  t0 := Try.underlying0
  a0 := Try.isAgg0
  z0 := Try.sizeOf0
  v0 := Try.zeroValue0
  t3 := Try.underlying3
  a3 := Try.isAgg3
  z3 := Try.sizeOf3
  v3 := Try.zeroValue3
  t4 := Try.underlying4
  a4 := Try.isAgg4
  z4 := Try.sizeOf4
  v4 := Try.zeroValue4
  t9 := Try.underlying9
  a9 := Try.isAgg9
  z9 := Try.sizeOf9
  v9 := Try.zeroValue9
  t21 := Try.underlying21
  a21 := Try.isAgg21
  z21 := Try.sizeOf21
  v21 := Try.zeroValue21
  t31 := Try.underlying22
  a31 := Try.isAgg22
  z31 := Try.sizeOf22
  v31 := Try.zeroValue22
  t40 := Try.underlying98
  a40 := Try.isAgg98
  z40 := Try.sizeOf98
  v40 := Try.zeroValue98
  t152 := Try.underlying122
  a152 := Try.isAgg122
  z152 := Try.sizeOf122
  v152 := Try.zeroValue122
  t154 := Try.underlying124
  a154 := Try.isAgg124
  z154 := Try.sizeOf124
  v154 := Try.zeroValue124 }
theorem flat_encS (L : List ByteArray) : L.flatMap encS = L.map Value.string := by induction L <;> simp_all [encS]
theorem blank_clo (w : World) : PredAtRunes Try.prog 70 #[] blankR w := by
  intro W x hx hb
  show Calls Try.prog 70 #[.int .i32 (x : Int)] W _
  by_cases h32 : (x : Int) = 32
  · obtain rfl : x = 32 := by omega
    go_enter Try.func70, Try.ntmps70
    go_wp2
    go_ret
    exact ⟨rfl, 0, rfl⟩
  · by_cases h9 : (x : Int) = 9
    · obtain rfl : x = 9 := by omega
      go_enter Try.func70, Try.ntmps70
      go_wp2
      go_ret
      exact ⟨rfl, 0, rfl⟩
    · have e : blankR x = false := by unfold blankR; simp; omega
      rw [e]
      go_enter Try.func70, Try.ntmps70
      go_wp2
      go_ret
      exact ⟨rb (by simp [h9, h32]), 0, rfl⟩
set_option maxRecDepth 100000 in
theorem implSplitText_any (s : ByteArray) (w : World) (hs : s.size ≤ 1048576) :
    Calls Try.prog 51 #[.string s] w fun e w' => ∃ g n, e = .returned (.slice (some ⟨g, 0, none⟩) n n) ∧ Hid (n = (splitT s).length) ∧ Own w' w.heap.size w'.heap.size 9 1 encS (.slice (some ⟨g, 0, none⟩) n n) (splitT s) ∧ Below w.heap.size w w' := by
  rw [← fields_split]
  have hF := Any.strings_FieldsFunc_runes lays229 70 #[] (fun args w => rfl) blankR s w (by omega) (blank_clo w) (by kernel_rfl) (by kernel_rfl)
  obtain ⟨L, hL⟩ : ∃ L, Lib.goFieldsP blankR s = L := ⟨_, rfl⟩
  rw [hL] at hF ⊢
  clear hL
  go_enter Try.func51, Try.ntmps51
  go_wp2_with (go_at_call 69; refine hF.mono ?_; rintro e w1 ⟨A, rfl, hA, ho, hb⟩)
  go_ret
  exact ⟨_, _, rfl, Lib.hid rfl, Own.of_owns (by rw [flat_encS]; exact ho) (Nat.le_refl _), hb⟩
end Go.Proofs.Ytfdjognmechcfaa
