/- Rules: an error that is not nil against nil; tokens compared. Marks and what is enclosed: the program. -/
import Derived.Stop.IfaceNil
import Derived.Test.YtnlgmojciplnoaaDoorLexPP
namespace Go.Proofs.YtnlgmojciplnoaaDoor
open Go.RowKit
set_option maxRecDepth 100000
section
variable {ops : Array Oper} {Q : Exit → Act → World → Prop} {C : Ctx} {H : List (Nat × Oper × Inf)} {i : Nat} {r : List Nat} {dr : Bool}
variable {tm : Nat → AV} {hp : Nat → Option Row} {gn L : Nat} {us : List Nat}
theorem zs11 {P : Program} {o : Oper} {σ : AS} {y : Value} (hop : ops[i]? = some o) (hg : gw ops σ.tm o = some true) (hs1 : scal y = true) (hr : ∀ (ev : Operand → Value) (w : World), (∀ z ∈ o.op.operands, ∃ St φ K, VR w St φ K (σ.ev z) (ev z)) → (execOp ev o).run P w = .ok (.value y) w) : Snd P ops Q C i o σ ⟨fpO σ.ev o, [], [], .c (.v y)⟩ := by
  intro τ a w ha hs K hK
  obtain ⟨φ, F, St, hs⟩ := hs
  have h3 := hr a.eval w fun z hz => ⟨St, φ, _, by rw [← ha.ev z hz]; exact hs.ev z⟩
  unfold wpOp
  rw [hop]
  have hw := zm13 hs (b := true) (by rw [ha.gw]; exact hg)
  simp only [hw, if_true]
  refine .inl ?_
  unfold Oper.wp
  rw [h3]
  have h7 := hs.put o.dst (x := .c (.v y)) (u := y) (by simp only [VR, CR]; exact ⟨trivial, hs1, trivial⟩)
  exact hK _ _ ⟨φ, F, St, h7⟩
theorem zu20 {P : Program} {o : Oper} {T ty t : TypeId} {p : Value} {xo : Operand} (ho : o.op = .binOp .neq T xo (.const .nilIface) ty) (hT : P.isIface T = true) (ev : Operand → Value) (w : World) (hx : ev xo = .iface t p) (hy : ev (.const .nilIface) = .nilIface) : (execOp ev o).run P w = .ok (.value (.bool true)) w := by
  unfold execOp
  rw [ho]
  simp only [hx, hy]
  simp [Sem.run_bind, eqGuard, run_neq_iface_nil w T hT t p]
theorem o_nn {t : Nat} {gd : Option (Nat × Bool)} {ps : String} {af : Array Edge} {ty ty' : TypeId} {xo : Operand} (h : Walk Tryd.prog ops Q C dr (keepH dr (i, (⟨some t, .binOp .neq 62 xo (.const .nilIface) ty', ty, ps, af, gd⟩ : Oper), ⟨fpO (AS.ev ⟨tm, hp, gn, us, L⟩) (⟨some t, .binOp .neq 62 xo (.const .nilIface) ty', ty, ps, af, gd⟩ : Oper), [], [], .c (.v (.bool true))⟩) H) r ⟨upd tm t (.c (.v (.bool true))), hp, gn, us, L⟩)
    (ht : Nat.blt t L = true := by exact rfl) (hg : gw ops tm (⟨some t, .binOp .neq 62 xo (.const .nilIface) ty', ty, ps, af, gd⟩ : Oper) = some true := by exact rfl) (hx : AS.ev ⟨tm, hp, gn, us, L⟩ xo = .c .nn := by exact rfl)
    (hc : chk dr ops i (⟨some t, .binOp .neq 62 xo (.const .nilIface) ty', ty, ps, af, gd⟩ : Oper) ⟨fpO (AS.ev ⟨tm, hp, gn, us, L⟩) (⟨some t, .binOp .neq 62 xo (.const .nilIface) ty', ty, ps, af, gd⟩ : Oper), [], [], .c (.v (.bool true))⟩ H = true := by first | (with_reducible exact zx1) | kernel_rfl) : WalkO Tryd.prog ops Q C dr H i (⟨some t, .binOp .neq 62 xo (.const .nilIface) ty', ty, ps, af, gd⟩ : Oper) r ⟨tm, hp, gn, us, L⟩ := ⟨fun hop => by
  refine ⟨_, _, hop, zs11 (y := .bool true) hop hg rfl fun ev w he => ?_, fun n hn => absurd hn List.not_mem_nil, zd4 hc, zi3 ?_⟩
  · obtain ⟨St, φ, K, h1⟩ := he xo (by show xo ∈ #[xo, .const .nilIface]; simp)
    rw [hx] at h1
    simp only [VR, CR] at h1
    obtain ⟨-, t', p, h1⟩ := h1
    obtain ⟨St, φ, K, h2⟩ := he (.const .nilIface) (by show _ ∈ #[xo, .const .nilIface]; simp)
    have h3 : ev (.const .nilIface) = .nilIface := by
      have h4 : VR w St φ K (.c (.v .nilIface)) (ev (.const .nilIface)) := h2
      simp only [VR, CR] at h4
      exact h4.1
    exact zu20 rfl (by kernel_rfl) ev w h1 h3
  · show Walk Tryd.prog ops Q C dr _ r (AS.put _ (some t) _)
    rw [zn4 (by exact zk4 ht)]; exact h⟩
theorem za15 (a0 b0 : Int) (a1 b1 : Int) (a2 b2 : ByteArray) (w : World) : (Op.equalIn 10000 31 (.agg #[.int .i64 a0, .int .i64 a1, .string a2]) (.agg #[.int .i64 b0, .int .i64 b1, .string b2])).run Tryd.prog w = .ok ((a0 == b0) && ((a1 == b1) && (a2.toList == b2.toList))) w := by
  rw [run_equalIn_agg w 9999 _ _ _ (by kernel_rfl) (by kernel_rfl)]
  simp only [Program.fieldsOf, Tryd.underlying31, Op.eqFields]
  simp [go_sem]
  by_cases h0 : a0 = b0 <;> by_cases h1 : a1 = b1 <;> by_cases h2 : a2.toList = b2.toList <;> simp [*]
theorem zj19 {t : Nat} {gd : Option (Nat × Bool)} {ps : String} {af : Array Edge} {ty ty' : TypeId} {xo yo : Operand} {a0 b0 : Int} {a1 b1 : Int} {a2 b2 : ByteArray} (h : Walk Tryd.prog ops Q C dr (keepH dr (i, (⟨some t, .binOp .eql 31 xo yo ty', ty, ps, af, gd⟩ : Oper), ⟨fpO (AS.ev ⟨tm, hp, gn, us, L⟩) (⟨some t, .binOp .eql 31 xo yo ty', ty, ps, af, gd⟩ : Oper), [], [], .c (.v (.bool ((a0 == b0) && ((a1 == b1) && (a2.toList == b2.toList)))))⟩) H) r ⟨upd tm t (.c (.v (.bool ((a0 == b0) && ((a1 == b1) && (a2.toList == b2.toList)))))), hp, gn, us, L⟩)
    (ht : Nat.blt t L = true := by exact rfl) (hg : gw ops tm (⟨some t, .binOp .eql 31 xo yo ty', ty, ps, af, gd⟩ : Oper) = some true := by exact rfl) (hx : AS.ev ⟨tm, hp, gn, us, L⟩ xo = .ag [.v (.int .i64 a0), .v (.int .i64 a1), .v (.string a2)] := by exact rfl) (hy : AS.ev ⟨tm, hp, gn, us, L⟩ yo = .ag [.v (.int .i64 b0), .v (.int .i64 b1), .v (.string b2)] := by exact rfl)
    (hc : chk dr ops i (⟨some t, .binOp .eql 31 xo yo ty', ty, ps, af, gd⟩ : Oper) ⟨fpO (AS.ev ⟨tm, hp, gn, us, L⟩) (⟨some t, .binOp .eql 31 xo yo ty', ty, ps, af, gd⟩ : Oper), [], [], .c (.v (.bool ((a0 == b0) && ((a1 == b1) && (a2.toList == b2.toList)))))⟩ H = true := by first | (with_reducible exact zx1) | kernel_rfl) : WalkO Tryd.prog ops Q C dr H i (⟨some t, .binOp .eql 31 xo yo ty', ty, ps, af, gd⟩ : Oper) r ⟨tm, hp, gn, us, L⟩ :=
  ⟨fun hop => zl21 (xs := [.int .i64 a0, .int .i64 a1, .string a2]) (ys := [.int .i64 b0, .int .i64 b1, .string b2]) hop rfl rfl ht hg (by kernel_rfl) (by rw [hx]; rfl) (by rw [hy]; rfl) (za15 a0 b0 a1 b1 a2 b2) (.inl ⟨rfl, rfl⟩) hc h⟩
theorem zh7 {t : Nat} {gd : Option (Nat × Bool)} {ps : String} {af : Array Edge} {ty ty' : TypeId} {xo yo : Operand} {a0 b0 : Int} {a1 b1 : Int} {a2 b2 : ByteArray} (h : Walk Tryd.prog ops Q C false [] r ⟨upd tm t (.c (.v (.bool ((a0 == b0) && ((a1 == b1) && (a2.toList == b2.toList)))))), hp, gn, us, L⟩) (ht : Nat.blt t L = true := by exact rfl) (hg : gw ops tm (⟨some t, .binOp .eql 31 xo yo ty', ty, ps, af, gd⟩ : Oper) = some true := by exact rfl) (hx : AS.ev ⟨tm, hp, gn, us, L⟩ xo = .ag [.v (.int .i64 a0), .v (.int .i64 a1), .v (.string a2)] := by exact rfl) (hy : AS.ev ⟨tm, hp, gn, us, L⟩ yo = .ag [.v (.int .i64 b0), .v (.int .i64 b1), .v (.string b2)] := by exact rfl) : WalkO Tryd.prog ops Q C false [] i (⟨some t, .binOp .eql 31 xo yo ty', ty, ps, af, gd⟩ : Oper) r ⟨tm, hp, gn, us, L⟩ := zj19 (dr := false) (H := []) (h := h) (ht := ht) (hg := hg) (hx := hx) (hy := hy)
end
theorem zp8 {s : ByteArray} {a b k : Nat} (hb : b ≤ s.size) : (cutB s a b).data.toList[k]? = if a + k < b then some (UInt8.ofNat (bAt s (a + k))) else none := by
  unfold cutB bAt
  rw [Array.getElem?_toList, ByteArray.data_extract, Array.getElem?_extract]
  have e : s.data.size = s.size := rfl
  by_cases h : a + k < b
  · rw [if_pos h, if_pos (by omega), Array.getElem?_eq_getElem (show a + k < s.data.size by omega), Option.getD_some, UInt8.ofNat_toNat]
  · rw [if_neg h, if_neg (by omega)]
theorem zb15 {a b : Nat} (ha : a < 256) (hb : b < 256) (h : UInt8.ofNat a = UInt8.ofNat b) : a = b := by
  have := congrArg UInt8.toNat h
  rw [UInt8.toNat_ofNat', UInt8.toNat_ofNat'] at this
  omega
theorem zc15 {s : ByteArray} {a c : Nat} (ha : a ≤ s.size) (hc : c < 256) : Lib.indexByte (cutB s a s.size).data.toList (UInt8.ofNat c) = if runF (neB c) s s.size a < s.size then ((runF (neB c) s s.size a - a : Nat) : Int) else -1 := by
  obtain ⟨g1, g2, g3', g4'⟩ := zl2 (p := neB c) (s := s) s.size a ha (by omega)
  have g3 : ∀ j, a ≤ j → j < runF (neB c) s s.size a → bAt s j ≠ c := fun j h1 h2 => by simpa [neB] using g3' j h1 h2
  have g4 : runF (neB c) s s.size a < s.size → bAt s (runF (neB c) s s.size a) = c := fun h => by simpa [neB] using g4' h
  clear g3' g4'
  have hge := Lib.indexByte_ge (cutB s a s.size).data.toList (UInt8.ofNat c)
  rcases Int.lt_or_le (Lib.indexByte (cutB s a s.size).data.toList (UInt8.ofNat c)) 0 with hn | hn
  · have e : Lib.indexByte (cutB s a s.size).data.toList (UInt8.ofNat c) = -1 := by omega
    rw [e]
    have h0 := Lib.indexByte_none e
    by_cases hu : runF (neB c) s s.size a < s.size
    · exfalso
      have h1 := h0 (runF (neB c) s s.size a - a)
      rw [zp8 (Nat.le_refl _), if_pos (by omega), show a + (runF (neB c) s s.size a - a) = runF (neB c) s s.size a by omega, g4 hu] at h1
      exact h1 rfl
    · rw [if_neg hu]
  · obtain ⟨o, ho⟩ : ∃ o : Nat, Lib.indexByte (cutB s a s.size).data.toList (UInt8.ofNat c) = (o : Int) := ⟨_, (Int.toNat_of_nonneg hn).symm⟩
    obtain ⟨h1, h2⟩ := Lib.indexByte_some ho
    rw [zp8 (Nat.le_refl _)] at h1
    by_cases hlt : a + o < s.size
    · rw [if_pos hlt] at h1
      injection h1 with h1
      have h3 := zb15 (zo3 _ _) hc h1
      have h4 : runF (neB c) s s.size a = a + o := by
        rcases Nat.lt_trichotomy (runF (neB c) s s.size a) (a + o) with h | h | h
        · exfalso
          have h5 := h2 (runF (neB c) s s.size a - a) (by omega)
          rw [zp8 (Nat.le_refl _), if_pos (by omega), show a + (runF (neB c) s s.size a - a) = runF (neB c) s s.size a by omega, g4 (by omega)] at h5
          exact h5 rfl
        · exact h
        · exact absurd h3 (g3 (a + o) (by omega) h)
      rw [ho, h4, if_pos hlt, show a + o - a = o by omega]
    · rw [if_neg hlt] at h1; cases h1
theorem zu7 {s : ByteArray} (hs : s.size ≤ 1048576) (h0 : 0 < s.size) : Ctr Tryd.prog 44 [.c (.v (.string s))] [] (if runF (neB (bAt s 0)) s s.size 1 = s.size then .tu [.c (.v (.string ByteArray.empty)), .c (.v (.bool false))] else .tu [.c (.v (.string (cutB s 1 (runF (neB (bAt s 0)) s s.size 1)))), .c (.v (.bool true))]) [] := by
  have c1 := zr5 (cutB s 1 s.size) (zo3 s 0)
  rw [zc15 (by omega) (zo3 s 0)] at c1
  have hr := zl2 (p := neB (bAt s 0)) (s := s) s.size 1 (by omega) (by omega)
  have g1 := hr.1
  have g2 := hr.2.1
  clear hr
  generalize runF (neB (bAt s 0)) s s.size 1 = e at c1 g1 g2 ⊢
  by_cases h : e = s.size
  · rw [if_pos h]
    rw [if_neg (by omega)] at c1
    refine zr2 Tryd.func44 rfl rfl ?_
    repeat' (first | ((apply f_wo); first | ((apply f_mv); first | refine zu (v := .c _) ?_ | refine za ?_) | ((apply f_as); first | refine zv (v := .c _) ?_ | refine za ?_) | ((apply f_ca); first | refine zh1 (c1) ?_ | refine zg1 (c1) ?_) | ((apply zi1); first | refine ze ?_ | refine za ?_) | ((apply zk1); first | refine zg ?_ | refine zj1 ?_ | refine za ?_) | refine zp1 ?_ | refine zy1 ?_ | refine zz1 ?_ | refine za2 ?_ | refine za ?_ | refine n_mv ?_) | ((apply f_w); first | refine zd1 ?_ | refine zd ?_) | ((apply d_wo); first | ((apply d_mv); refine zo1 ?_) | ((apply d_as); refine zo1 ?_) | ((apply d_ca); first | refine zy2 (c1) ?_) | ((apply d_bb); first | refine zc2 ?_ | refine zd2 ?_ | refine ze2 ?_ | refine zx3 ?_ | refine zo1 ?_) | refine zt3 ?_ | refine zu3 ?_ | refine zv3 ?_ | refine zw3 ?_ | refine zo1 ?_ | refine o_mv ?_) | ((apply d_w); first | refine zd1 ?_ | refine zd ?_) | refine zb fun C => ?_ | refine zn1 (by kernel_rfl) (by kernel_rfl) fun C => ?_ | refine zj ?_ | refine zc ?_ | refine zf ?_ | refine zh ?_ | refine zq rfl ?_ | refine zr rfl ?_)
    refine zc1 ?_; refine ret0 rfl (zt2 (zt zv1 (zt zv1 zw1))) ⟨?_, rfl⟩; rfl
  · rw [if_neg h]
    rw [if_pos (by omega)] at c1
    have he : ((e - 1 : Nat) : Int) + 1 = (e : Int) := by omega
    refine zr2 Tryd.func44 rfl rfl ?_
    repeat' (first | ((apply f_wo); first | ((apply f_mv); first | refine zu (v := .c _) ?_ | refine za ?_) | ((apply f_as); first | refine zv (v := .c _) ?_ | refine za ?_) | ((apply f_ca); first | refine zh1 (c1) ?_ | refine zg1 (c1) ?_) | ((apply zi1); first | refine ze ?_ | refine za ?_) | ((apply zk1); first | refine zg ?_ | refine zj1 ?_ | refine za ?_) | refine zp1 ?_ | refine zy1 ?_ | refine zz1 ?_ | refine za2 ?_ | refine za ?_ | refine n_mv ?_) | ((apply f_w); first | refine zd1 ?_ | refine zd ?_) | ((apply d_wo); first | ((apply d_mv); refine zo1 ?_) | ((apply d_as); refine zo1 ?_) | ((apply d_ca); first | refine zy2 (c1) ?_) | ((apply d_bb); first | refine zc2 ?_ | refine zd2 ?_ | refine ze2 ?_ | refine zx3 ?_ | refine zo1 ?_) | refine zt3 ?_ | refine zu3 ?_ | refine zv3 ?_ | refine zw3 ?_ | refine zo1 ?_ | refine o_mv ?_) | ((apply d_w); first | refine zd1 ?_ | refine zd ?_) | refine zb fun C => ?_ | refine zn1 (by kernel_rfl) (by kernel_rfl) fun C => ?_ | refine zj ?_ | refine zc ?_ | refine zf ?_ | refine zh ?_ | (refine zp (by rfl) ?_ ?_ <;> intro hC <;> (try cases hC)))
    all_goals first
      | (exfalso; simp only [decide_eq_true_iff] at hC; omega)
      | (refine zc1 ?_; refine ret0 rfl (zt2 (zt zv1 (zt zv1 zw1))) ⟨?_, rfl⟩; rfl)
end Go.Proofs.YtnlgmojciplnoaaDoor
