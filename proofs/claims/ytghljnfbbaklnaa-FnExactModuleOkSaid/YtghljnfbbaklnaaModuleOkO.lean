/- Regular expressions read: of the reference's reader, what comes back is of its type, and the reader's place moves on. -/
import Derived.Test.YtghljnfbbaklnaaModuleOkN
namespace Go.Proofs.Ytghljnfbbaklnaa
open Go.RowKit
set_option maxRecDepth 100000
structure GoodS (s : ByteArray) (p : PS) (r : E × PS) : Prop where
  fine : Fine r.1
  ge : p.a ≤ r.2.a
  le : r.2.a ≤ s.size
  dg : p.d ≤ r.2.d
  dl : r.2.d ≤ 9
  nb : r.2.b = false → p.b = false ∧ r.2.d = p.d
def Pre (s : ByteArray) (p : PS) : Prop := p.a ≤ s.size ∧ p.d ≤ 9 ∧ (p.b = false → p.d ≤ 8)
section
variable {s : ByteArray} (hs : s.size ≤ 1048576)
theorem zg9 {c : Nat} {p : PS} (h : isB s c p = true) : p.b = false ∧ p.a < s.size ∧ bAt s p.a = c := by
  unfold isB at h
  simp only [Bool.and_eq_true, Bool.not_eq_true', decide_eq_true_iff, beq_iff_eq] at h
  exact ⟨h.1.1, h.1.2, h.2⟩
theorem GoodS.bad {p q : PS} (hp : Pre s p) (h1 : p.a ≤ q.a) (h2 : q.a ≤ s.size) (h3 : p.d ≤ q.d) (h4 : q.d ≤ 9) : GoodS s p (zeroR, q.bad) := ⟨Fine.zero, h1, h2, h3, h4, fun h => by cases h⟩
theorem zn10 {alt : PS → E × PS} {q : PS} (hq : Pre s q) (hb : q.b = false) (ha : q.d ≤ 7 → GoodS s ⟨q.a, q.d + 1, q.b⟩ (alt ⟨q.a, q.d + 1, q.b⟩)) : GoodS s q (groupS s alt q) := by
  obtain ⟨h1, h2, h3⟩ := hq
  have h3 := h3 hb
  unfold groupS
  split
  · rename_i h
    obtain ⟨i1, i2, i3⟩ := zg9 h
    exact ⟨Fine.leaf (by omega) (by show (0 : Nat) ≤ _; omega), by show q.a ≤ q.a + 1; omega, by show q.a + 1 ≤ _; omega, Nat.le_refl _, h2, fun _ => ⟨hb, rfl⟩⟩
  split
  · exact ⟨Fine.zero, Nat.le_refl _, h1, by show q.d ≤ q.d + 1; omega, by show q.d + 1 ≤ 9; omega, fun h => by cases h⟩
  · obtain ⟨g1, g2, g3, g4, g5, g6⟩ := ha (by omega)
    dsimp only at g2 g4 ⊢
    split
    · rename_i h
      obtain ⟨i1, i2, i3⟩ := zg9 h
      dsimp only at i1 i2
      obtain ⟨j1, j2⟩ := g6 i1
      exact ⟨g1, by show q.a ≤ (alt ⟨q.a, q.d + 1, q.b⟩).2.a + 1; omega, by show (alt ⟨q.a, q.d + 1, q.b⟩).2.a + 1 ≤ _; omega, by show q.d ≤ (alt ⟨q.a, q.d + 1, q.b⟩).2.d - 1; omega, by show (alt ⟨q.a, q.d + 1, q.b⟩).2.d - 1 ≤ 9; omega, fun _ => ⟨hb, by show (alt ⟨q.a, q.d + 1, q.b⟩).2.d - 1 = q.d; dsimp only at j2; omega⟩⟩
    · exact ⟨Fine.zero, g2, g3, by show q.d ≤ (alt ⟨q.a, q.d + 1, q.b⟩).2.d - 1; omega, by show (alt ⟨q.a, q.d + 1, q.b⟩).2.d - 1 ≤ 9; omega, fun h => by cases h⟩
include hs
theorem zu11 {alt : PS → E × PS} {p : PS} (hp : Pre s p) (ha : p.b = false → p.a < s.size → p.d ≤ 7 → GoodS s ⟨p.a + 1, p.d + 1, p.b⟩ (alt ⟨p.a + 1, p.d + 1, p.b⟩)) : GoodS s p (atomS s alt p) ∧ ((atomS s alt p).2.b = false → p.a < (atomS s alt p).2.a) := by
  obtain ⟨h1, h2, h3⟩ := hp
  unfold atomS
  split
  · exact ⟨GoodS.bad ⟨h1, h2, h3⟩ (Nat.le_refl _) h1 (Nat.le_refl _) h2, fun h => by cases h⟩
  · rename_i hn
    simp only [not_or, Bool.not_eq_true, Nat.not_le] at hn
    obtain ⟨hb, hlt⟩ := hn
    have up : ∀ r : E × PS, GoodS s (p.go 1) r → GoodS s p r ∧ (r.2.b = false → p.a < r.2.a) := fun r g =>
      ⟨⟨g.fine, by have := g.ge; have e : (p.go 1).a = p.a + 1 := rfl; omega, g.le, g.dg, g.dl, g.nb⟩, fun _ => by have := g.ge; have e : (p.go 1).a = p.a + 1 := rfl; omega⟩
    have hq : Pre s (p.go 1) := ⟨by show p.a + 1 ≤ _; omega, h2, h3⟩
    apply up
    have leaf : ∀ (k : Int) (t : ByteArray), 0 ≤ k ∧ k ≤ 11 → t.size ≤ 1 → GoodS s (p.go 1) (rexE k t [], p.go 1) := fun k t hk ht => ⟨Fine.leaf hk (by omega), Nat.le_refl _, hq.1, Nat.le_refl _, hq.2.1, fun h => ⟨h, rfl⟩⟩
    have e0 : ByteArray.empty.size = 0 := rfl
    unfold atomSc
    split
    · exact leaf 2 _ (by omega) (by omega)
    split
    · exact leaf 10 _ (by omega) (by omega)
    split
    · exact leaf 11 _ (by omega) (by omega)
    split
    · exact zn10 hq hb fun h => ha hb hlt h
    split
    · exact leaf 1 _ (by omega) (by show (1 : Nat) ≤ 1; omega)
    split
    · exact GoodS.bad hq (Nat.le_refl _) hq.1 (Nat.le_refl _) hq.2.1
    · obtain ⟨u1, u2⟩ := zi15 (s := s) (c := 93) s.size (p.go 1).a hq.1
      dsimp only
      split
      · rename_i h
        obtain ⟨i1, i2, i3⟩ := zg9 h
        dsimp only at i2
        refine ⟨Fine.leaf (by omega) (by show (cutB _ _ _).size ≤ _; unfold cutB; rw [ByteArray.size_extract]; omega), ?_, ?_, Nat.le_refl _, hq.2.1, fun h => ⟨h, rfl⟩⟩
        · show (p.go 1).a ≤ untB s 93 s.size (p.go 1).a + 1; omega
        · show untB s 93 s.size (p.go 1).a + 1 ≤ _; omega
      · exact GoodS.bad hq u1 u2 (Nat.le_refl _) hq.2.1
omit hs in
theorem zo8 {atom : PS → E × PS} {p : PS} (ha : GoodS s p (atom p) ∧ ((atom p).2.b = false → p.a < (atom p).2.a)) : GoodS s p (itemS s atom p) ∧ ((itemS s atom p).2.b = false → p.a < (itemS s atom p).2.a) := by
  obtain ⟨⟨g1, g2, g3, g4, g5, g6⟩, g7⟩ := ha
  have star : ∀ k : Int, 0 ≤ k ∧ k ≤ 11 → (atom p).2.a < s.size → GoodS s p (rexE k ByteArray.empty [(atom p).1], (atom p).2.go 1) ∧ (((atom p).2.go 1).b = false → p.a < ((atom p).2.go 1).a) := fun k hk hl =>
    ⟨⟨.mk k _ _ hk (by show (0 : Nat) ≤ _; omega) (fun x hx => by obtain rfl := List.mem_singleton.1 hx; exact g1), by show p.a ≤ (atom p).2.a + 1; omega, by show (atom p).2.a + 1 ≤ _; omega, g4, g5, g6⟩, fun _ => by show p.a < (atom p).2.a + 1; omega⟩
  unfold itemS
  dsimp only
  split
  · rename_i h; exact star 6 (by omega) (zg9 h).2.1
  split
  · rename_i h; exact star 7 (by omega) (zg9 h).2.1
  split
  · rename_i h; exact star 8 (by omega) (zg9 h).2.1
  · exact ⟨⟨g1, g2, g3, g4, g5, g6⟩, g7⟩
omit hs in
structure GoodLS (s : ByteArray) (p0 : PS) (l : List E) (q : PS) : Prop where
  fine : ∀ x ∈ l, Fine x
  ge : p0.a ≤ q.a
  le : q.a ≤ s.size
  dg : p0.d ≤ q.d
  dl : q.d ≤ 9
  nb : q.b = false → p0.b = false ∧ q.d = p0.d
  len : l.length + p0.a ≤ q.a + 2 ∧ (q.b = false → l.length + p0.a ≤ q.a + 1)
  ne : 0 < l.length
omit hs in
theorem goS_to {p : PS} (h : goS s p = true) : p.b = false ∧ p.a < s.size ∧ bAt s p.a ≠ 124 ∧ bAt s p.a ≠ 41 := by
  unfold goS at h
  simp only [Bool.and_eq_true, Bool.not_eq_true', decide_eq_true_iff, beq_eq_false_iff_ne] at h
  exact ⟨h.1.1.1, h.1.1.2, h.1.2, h.2⟩
omit hs in
theorem GoodLS.pre {p0 q : PS} {l : List E} (h : GoodLS s p0 l q) (hp : Pre s p0) : Pre s q := ⟨h.le, h.dl, fun hb => by obtain ⟨h1, h2⟩ := h.nb hb; have := hp.2.2 h1; omega⟩
omit hs in
theorem GoodLS.step {p0 q : PS} {l : List E} {r : E × PS} (h : GoodLS s p0 l q) (hb : q.b = false) (hr : GoodS s q r ∧ (r.2.b = false → q.a < r.2.a)) : GoodLS s p0 (l ++ [r.1]) r.2 := by
  obtain ⟨k1, k2, k3, k4, k5, k6, k7, k8⟩ := h
  obtain ⟨⟨g1, g2, g3, g4, g5, g6⟩, g7⟩ := hr
  have k7 := k7.2 hb
  refine ⟨fun x hx => ?_, by omega, g3, by omega, g5, fun h => ?_, ⟨?_, fun h => ?_⟩, ?_⟩
  · rcases List.mem_append.1 hx with hx | hx
    · exact k1 x hx
    · obtain rfl := List.mem_singleton.1 hx; exact g1
  · exact ⟨(k6 hb).1, by have := (g6 h).2; have := (k6 hb).2; omega⟩
  · rw [List.length_append, List.length_singleton]; omega
  · have := g7 h; rw [List.length_append, List.length_singleton]; omega
  · rw [List.length_append, List.length_singleton]; omega
omit hs in
theorem GoodLS.one {p0 : PS} {r : E × PS} (hr : GoodS s p0 r) : GoodLS s p0 [r.1] r.2 := by
  obtain ⟨g1, g2, g3, g4, g5, g6⟩ := hr
  exact ⟨fun x hx => by obtain rfl := List.mem_singleton.1 hx; exact g1, g2, g3, g4, g5, g6, ⟨by rw [List.length_singleton]; omega, fun _ => by rw [List.length_singleton]; omega⟩, by simp⟩
omit hs in
theorem zz7 {item : PS → E × PS} {p0 : PS} (hp0 : Pre s p0) (hi : ∀ p, Pre s p → p0.a ≤ p.a → p.d ≤ p0.d ∨ p.b = true → GoodS s p (item p) ∧ ((item p).2.b = false → p.a < (item p).2.a)) : ∀ (n : Nat) (l : List E) (p : PS), GoodLS s p0 l p → GoodLS s p0 (catLoopS s item n l p).1 (catLoopS s item n l p).2
  | 0, l, p, h => h
  | n + 1, l, p, h => by
    unfold catLoopS
    split
    · rename_i hg
      obtain ⟨hb, hlt, -⟩ := goS_to hg
      exact zz7 hp0 hi n _ _ (h.step hb (hi p (h.pre hp0) h.ge (.inl (by have := (h.nb hb).2; omega))))
    · exact h
omit hs in
theorem GoodLS.fin {p0 q : PS} {l : List E} {k : Int} (hk : 0 ≤ k ∧ k ≤ 11) (h : GoodLS s p0 l q) : GoodS s p0 (oneOr k l, q) := ⟨(zn8 hk h.fine).1, h.ge, h.le, h.dg, h.dl, h.nb⟩
omit hs in
theorem zg14 {item : PS → E × PS} {p : PS} (hp : Pre s p) (hi : ∀ q, Pre s q → p.a ≤ q.a → GoodS s q (item q) ∧ ((item q).2.b = false → q.a < (item q).2.a)) : GoodS s p (catS s item p) :=
  (zz7 hp (fun q h1 h2 _ => hi q h1 h2) (s.size + 1) _ _ (GoodLS.one (hi p hp (Nat.le_refl _)).1)).fin (by omega)
omit hs in
theorem za8 {cat : PS → E × PS} {p0 : PS} (hp0 : Pre s p0) (hc : ∀ q, Pre s q → p0.a ≤ q.a → GoodS s q (cat q)) : ∀ (n : Nat) (l : List E) (p : PS), GoodLS s p0 l p → GoodLS s p0 (altLoopS s cat n l p).1 (altLoopS s cat n l p).2
  | 0, l, p, h => h
  | n + 1, l, p, h => by
    unfold altLoopS
    split
    · rename_i hg
      obtain ⟨hb, hlt, -⟩ := zg9 hg
      have hpre := h.pre hp0
      have e1 : (p.go 1).a = p.a + 1 := rfl
      have hge := h.ge
      have hgd := hc (p.go 1) ⟨by omega, hpre.2.1, hpre.2.2⟩ (by omega)
      refine za8 hp0 hc n _ _ (h.step hb ⟨⟨hgd.fine, by have := hgd.ge; omega, hgd.le, hgd.dg, hgd.dl, hgd.nb⟩, fun _ => by have := hgd.ge; omega⟩)
    · exact h
omit hs in
theorem zk21 {cat : PS → E × PS} {p : PS} (hp : Pre s p) (hc : ∀ q, Pre s q → p.a ≤ q.a → GoodS s q (cat q)) : GoodS s p (altC s cat p) :=
  (za8 hp hc (s.size + 1) _ _ (GoodLS.one (hc p hp (Nat.le_refl _)))).fin (by omega)
theorem zh14 (f : Nat) : ∀ p : PS, Pre s p → s.size + 1 ≤ p.a + f → GoodS s p (altS s f p) := by
  induction f with
  | zero => intro p h1 h2; have := h1.1; omega
  | succ f ih =>
    intro p h1 h2
    exact zk21 h1 fun q hq hqa => zg14 hq fun r hr hra => zo8 (zu11 hs hr fun hb hlt hd => ih _ ⟨by show r.a + 1 ≤ _; omega, by show r.d + 1 ≤ 9; omega, fun _ => by show r.d + 1 ≤ 8; omega⟩ (by show s.size + 1 ≤ r.a + 1 + f; omega))
end
theorem zt12 {c : Nat} (hc : c < 256) : Ctr Try.prog 153 [.c (.v (.int .u8 (c : Int)))] [] (.c (.v (.bool (litB c)))) [] := by
  have h2 := zv20 hc
  refine zm2 Try.func153 rfl rfl ?_
  repeat' (first | ((apply f_wo); first | ((apply f_gs); first | refine n_sk ?_) | ((apply f_mv); first | (refine zw1 ?_ ?_ <;> intro hG <;> (try cases hG)) | refine zg1 (v := .c _) ?_ | refine za ?_) | ((apply f_as); first | refine zf1 (v := .c _) ?_ | refine za ?_) | ((apply f_ca); first | refine zr2 ((zk6 _ _ _)) ?_ | refine zp2 ((zk6 _ _ _)) ?_ | refine zr2 (h2) ?_ | refine zp2 (h2) ?_) | ((apply zz1); first | refine zd2 ?_ | refine za ?_) | ((apply f_pk); first | refine zu1 (v := .c _) ?_ | refine za ?_) | ((apply f_cv); first | refine n_int_cv ?_ | refine za ?_) | refine za ?_) | ((apply f_w); first | refine zy ?_ | refine zc ?_) | refine zb fun C => ?_ | refine zn ?_ | refine ze ?_ | refine zh ?_ | refine zi ?_ | (refine zt (by rfl) ?_ ?_ <;> intro hC <;> (try cases hC)))
  all_goals
    (first | refine zu ?_ | skip); refine ret0 rfl zn2 ⟨?_, rfl⟩; refine congrArg (fun s => AV.c (AC.v (Value.bool s))) ?_
    clear h2
    unfold litB
    simp only [inR, digB, Bool.or_eq_true, Bool.and_eq_true, decide_eq_true_iff, beq_iff_eq, Bool.and_eq_false_iff, decide_eq_false_iff_not] at *
    (rw [Bool.eq_iff_iff]; (try simp only [Bool.and_eq_true, Bool.or_eq_true, Bool.not_eq_true', decide_eq_true_iff, decide_eq_false_iff_not, beq_iff_eq, Bool.and_eq_false_iff, Bool.or_eq_false_iff, bne_iff_ne, ne_eq, Bool.true_eq_false, Bool.false_eq_true, true_iff, false_iff, iff_true, iff_false] at *); first | omega | (simp at *; omega))
theorem zu5 (k : Int) : Ctr Try.prog 152 [.c (.v (.int .i64 k))] [] (.c (.v (.bool (loopK k)))) [] := by
  refine zm2 Try.func152 rfl rfl ?_
  repeat' (first | ((apply f_wo); first | ((apply f_gs); first | refine n_sk ?_) | ((apply f_mv); first | (refine zw1 ?_ ?_ <;> intro hG <;> (try cases hG)) | refine zg1 (v := .c _) ?_ | refine za ?_) | ((apply f_as); first | refine zf1 (v := .c _) ?_ | refine za ?_) | ((apply zz1); first | refine za1 ?_ | refine za ?_) | ((apply f_pk); first | refine zu1 (v := .c _) ?_ | refine za ?_) | refine za ?_) | ((apply f_w); first | refine zy ?_ | refine zc ?_) | refine zb fun C => ?_ | refine zn ?_ | refine ze ?_ | refine zh ?_ | refine zi ?_ | (refine zt (by rfl) ?_ ?_ <;> intro hC <;> (try cases hC)))
  all_goals
    (first | refine zu ?_ | skip); refine ret0 rfl zn2 ⟨?_, rfl⟩; refine congrArg (fun s => AV.c (AC.v (Value.bool s))) ?_
    unfold loopK
    (rw [Bool.eq_iff_iff]; (try simp only [Bool.and_eq_true, Bool.or_eq_true, Bool.not_eq_true', decide_eq_true_iff, decide_eq_false_iff_not, beq_iff_eq, Bool.and_eq_false_iff, Bool.or_eq_false_iff, bne_iff_ne, ne_eq, Bool.true_eq_false, Bool.false_eq_true, true_iff, false_iff, iff_true, iff_false] at *); first | omega | (simp at *; omega))
theorem l3Set_c {s : ByteArray} (hs : s.size ≤ 1073741824) : Ctr Try.prog 154 [.c (.v (.string s))] [] (.c (.v (.bool (setOkB s)))) [] := by
  refine zm2 Try.func154 rfl rfl ?_
  repeat' (first | ((apply f_wo); first | ((apply f_gs); first | refine n_sk ?_) | ((apply f_mv); first | (refine zw1 ?_ ?_ <;> intro hG <;> (try cases hG)) | refine zg1 (v := .c _) ?_ | refine za ?_) | ((apply f_as); first | refine zf1 (v := .c _) ?_ | refine za ?_) | ((apply f_bi); first | refine zd1 ?_ | refine zc1 ?_ | refine ze1 ?_ | refine za ?_) | ((apply za2); first | refine zq ?_ | refine za ?_) | ((apply zq3); first | refine zh1 ?_ | refine za ?_) | ((apply zs3); first | refine zw7 ?_ | refine za ?_) | ((apply zs1); first | refine zo ?_ | refine zr1 ?_ | refine za ?_) | ((apply f_no); first | refine zj2 ?_ | refine za ?_) | ((apply f_pk); first | refine zu1 (v := .c _) ?_ | refine za ?_) | ((apply f_bb); first | refine zg2 ?_ | refine zh2 ?_ | refine za ?_) | refine zx3 ?_ | refine za ?_) | ((apply f_w); first | refine zy ?_ | refine zc ?_) | ((apply d_wo); first | ((apply d_gs); first | refine o_sk ?_ | refine za4 ?_) | ((apply d_bo); (refine o_gm ?_ ?_ <;> intro hG <;> (try cases hG))) | ((apply d_mv); refine zr ?_) | ((apply d_as); refine zr ?_) | ((apply d_bi); first | refine zn3 ?_ | refine zm3 ?_ | refine zo3 ?_ | refine zw2 ?_ | refine zw2 (hnu := zl _) ?_ | refine zx1 ?_ | refine zx1 (hnu := zl _) ?_ | refine zr ?_) | ((apply d_bb); first | refine zl1 ?_ | refine zm1 ?_ | refine zn1 ?_ | refine zw3 ?_ | refine zr ?_) | refine zo4 ?_ | refine zr ?_) | ((apply d_w); first | refine zy ?_ | refine zc ?_) | refine zb fun C => ?_ | refine zp (by kernel_rfl) (by kernel_rfl) fun C => ?_ | refine zn ?_ | refine ze ?_ | refine zh ?_ | refine zi ?_)
  refine zp3 (fun k : Nat => ⟨tmsF [(0, .c (.v (.string s))), (3, .c (.v (.int .i64 k)))], hpsF [], 0, [], 32⟩) (fun N k => k + N = s.size ∧ ∀ j, j < k → setAtB s j = true) s.size 0 ⟨by omega, fun j hj => by omega⟩ ?_ ?_
  · (refine zo2 _ _ rfl rfl ?_ ?_ <;> (repeat' (first | exact TmOk.nil | exact RwOk.nil | refine TmOk.cons ?_ ?_ | refine RwOk.cons ?_ ?_ | rfl | (refine rnV_id' rfl ?_; (first | rfl | (simp [cloV, cloL, clo, zj, zf, zk, zg, zd]; done))) | (refine zd3 ?_; first | rfl | omega | (rw [zb2 (by omega) (by omega)]; omega)) | (refine zi2 rfl ?_; (first | rfl | (simp [cloV, cloL, clo, zj, zf, zk, zg, zd]; done))) | exact zj4 rfl rfl | (refine ze3 (by rfl) (by rfl) ?_ ?_ <;> (first | rfl | (simp [cloV, cloL, clo, zj, zf, zk, zg, zd]; done))) | (refine rw_rn' rfl rfl ?_; simp; done))))
  rintro N k ⟨hN, hall⟩
  repeat' (first | ((apply f_wo); first | ((apply f_gs); first | refine n_sk ?_) | ((apply f_mv); first | (refine zw1 ?_ ?_ <;> intro hG <;> (try cases hG)) | refine zg1 (v := .c _) ?_ | refine za ?_) | ((apply f_as); first | refine zf1 (v := .c _) ?_ | refine za ?_) | ((apply f_bi); first | refine zd1 ?_ | refine zc1 ?_ | refine ze1 ?_ | refine za ?_) | ((apply za2); first | refine zq ?_ | refine za ?_) | ((apply zq3); first | refine zh1 ?_ | refine za ?_) | ((apply zs3); first | refine zw7 ?_ | refine za ?_) | ((apply zs1); first | refine zo ?_ | refine zr1 ?_ | refine za ?_) | ((apply f_no); first | refine zj2 ?_ | refine za ?_) | ((apply f_pk); first | refine zu1 (v := .c _) ?_ | refine za ?_) | ((apply f_bb); first | refine zg2 ?_ | refine zh2 ?_ | refine za ?_) | refine zx3 ?_ | refine za ?_) | ((apply f_w); first | refine zy ?_ | refine zc ?_) | ((apply d_wo); first | ((apply d_gs); first | refine o_sk ?_ | refine za4 ?_) | ((apply d_bo); (refine o_gm ?_ ?_ <;> intro hG <;> (try cases hG))) | ((apply d_mv); refine zr ?_) | ((apply d_as); refine zr ?_) | ((apply d_bi); first | refine zn3 ?_ | refine zm3 ?_ | refine zo3 ?_ | refine zw2 ?_ | refine zw2 (hnu := zl _) ?_ | refine zx1 ?_ | refine zx1 (hnu := zl _) ?_ | refine zr ?_) | ((apply d_bb); first | refine zl1 ?_ | refine zm1 ?_ | refine zn1 ?_ | refine zw3 ?_ | refine zr ?_) | refine zo4 ?_ | refine zr ?_) | ((apply d_w); first | refine zy ?_ | refine zc ?_) | refine zb fun C => ?_ | refine zp (by kernel_rfl) (by kernel_rfl) fun C => ?_ | refine zn ?_ | refine ze ?_ | refine zh ?_ | refine zi ?_)
  refine zt (by rfl) (fun h1 => ?_) fun h1 => ?_
  · have hk : k < s.size := by simpa using h1
    have hl := zt12 (zn7 s k)
    cases k with
    | zero =>
      repeat' (first | ((apply f_wo); first | ((apply f_gs); first | refine n_sk ?_) | ((apply f_mv); first | (refine zw1 ?_ ?_ <;> intro hG <;> (try cases hG)) | refine zg1 (v := .c _) ?_ | refine za ?_) | ((apply f_as); first | refine zf1 (v := .c _) ?_ | refine za ?_) | ((apply f_ca); first | refine zr2 (hl) ?_ | refine zp2 (hl) ?_) | ((apply f_bi); first | refine zd1 ?_ | refine zc1 ?_ | refine ze1 ?_ | refine za ?_) | ((apply za2); first | refine zq ?_ | refine za ?_) | ((apply zq3); first | refine zh1 ?_ | refine za ?_) | ((apply zs3); first | refine zw7 ?_ | refine za ?_) | ((apply zs1); first | refine zo ?_ | refine zr1 ?_ | refine za ?_) | ((apply f_no); first | refine zj2 ?_ | refine za ?_) | ((apply f_pk); first | refine zu1 (v := .c _) ?_ | refine za ?_) | ((apply f_bb); first | refine zg2 ?_ | refine zh2 ?_ | refine za ?_) | refine zx3 ?_ | refine za ?_) | ((apply f_w); first | refine zy ?_ | refine zc ?_) | ((apply d_wo); first | ((apply d_gs); first | refine o_sk ?_ | refine za4 ?_) | ((apply d_bo); (refine o_gm ?_ ?_ <;> intro hG <;> (try cases hG))) | ((apply d_mv); refine zr ?_) | ((apply d_as); refine zr ?_) | ((apply d_ca); first | refine zn5 (hl) ?_) | ((apply d_bi); first | refine zn3 ?_ | refine zm3 ?_ | refine zo3 ?_ | refine zw2 ?_ | refine zw2 (hnu := zl _) ?_ | refine zx1 ?_ | refine zx1 (hnu := zl _) ?_ | refine zr ?_) | ((apply d_bb); first | refine zl1 ?_ | refine zm1 ?_ | refine zn1 ?_ | refine zw3 ?_ | refine zr ?_) | refine zo4 ?_ | refine zr ?_) | ((apply d_w); first | refine zy ?_ | refine zc ?_) | refine zb fun C => ?_ | refine zp (by kernel_rfl) (by kernel_rfl) fun C => ?_ | refine zn ?_ | refine ze ?_ | refine zh ?_ | refine zi ?_ | (refine zt (by rfl) ?_ ?_ <;> intro hC <;> (try cases hC)))
      all_goals first
        | (exfalso; revert hG; simp; done)
        | (refine zu ?_
           refine ret0 (x := .c (.v (.bool false))) rfl zn2 ⟨?_, rfl⟩
           rw [zo9 hk (by unfold setAtB; simp_all)])
        | (refine ⟨N - 1, 1, by omega, ⟨by omega, fun j hj => ?_⟩, ?_⟩
           · obtain rfl : j = 0 := by omega
             unfold setAtB; simp_all
           · (refine zo2 _ _ rfl rfl ?_ ?_ <;> (repeat' (first | exact TmOk.nil | exact RwOk.nil | refine TmOk.cons ?_ ?_ | refine RwOk.cons ?_ ?_ | rfl | (refine rnV_id' rfl ?_; (first | rfl | (simp [cloV, cloL, clo, zj, zf, zk, zg, zd]; done))) | (refine zd3 ?_; first | rfl | omega | (rw [zb2 (by omega) (by omega)]; omega)) | (refine zi2 rfl ?_; (first | rfl | (simp [cloV, cloL, clo, zj, zf, zk, zg, zd]; done))) | exact zj4 rfl rfl | (refine ze3 (by rfl) (by rfl) ?_ ?_ <;> (first | rfl | (simp [cloV, cloL, clo, zj, zf, zk, zg, zd]; done))) | (refine rw_rn' rfl rfl ?_; simp; done)))))
    | succ m =>
      have hm : ((m + 1 : Nat) : Int) - 1 = (m : Int) := by omega
      repeat' (first | ((apply f_wo); first | ((apply f_gs); first | refine n_sk ?_) | ((apply f_mv); first | (refine zw1 ?_ ?_ <;> intro hG <;> (try cases hG)) | refine zg1 (v := .c _) ?_ | refine za ?_) | ((apply f_as); first | refine zf1 (v := .c _) ?_ | refine za ?_) | ((apply f_ca); first | refine zr2 (hl) ?_ | refine zp2 (hl) ?_) | ((apply f_bi); first | refine zd1 ?_ | refine zc1 ?_ | refine ze1 ?_ | refine za ?_) | ((apply za2); first | refine zq ?_ | refine za ?_) | ((apply zq3); first | refine zh1 ?_ | refine za ?_) | ((apply zs3); first | refine zw7 ?_ | refine za ?_) | ((apply zs1); first | refine zo ?_ | refine zr1 ?_ | refine za ?_) | ((apply f_no); first | refine zj2 ?_ | refine za ?_) | ((apply f_pk); first | refine zu1 (v := .c _) ?_ | refine za ?_) | ((apply f_bb); first | refine zg2 ?_ | refine zh2 ?_ | refine za ?_) | refine zx3 ?_ | refine za ?_) | ((apply f_w); first | refine zy ?_ | refine zc ?_) | ((apply d_wo); first | ((apply d_gs); first | refine o_sk ?_ | refine za4 ?_) | ((apply d_bo); (refine o_gm ?_ ?_ <;> intro hG <;> (try cases hG))) | ((apply d_mv); refine zr ?_) | ((apply d_as); refine zr ?_) | ((apply d_ca); first | refine zn5 (hl) ?_) | ((apply d_bi); first | refine zn3 ?_ | refine zm3 ?_ | refine zo3 ?_ | refine zw2 ?_ | refine zw2 (hnu := zl _) ?_ | refine zx1 ?_ | refine zx1 (hnu := zl _) ?_ | refine zr ?_) | ((apply d_bb); first | refine zl1 ?_ | refine zm1 ?_ | refine zn1 ?_ | refine zw3 ?_ | refine zr ?_) | refine zo4 ?_ | refine zr ?_) | ((apply d_w); first | refine zy ?_ | refine zc ?_) | refine zb fun C => ?_ | refine zp (by kernel_rfl) (by kernel_rfl) fun C => ?_ | refine zn ?_ | refine ze ?_ | refine zh ?_ | refine zi ?_ | (refine zt (by rfl) ?_ ?_ <;> intro hC <;> (try cases hC)))
      all_goals first
        | (refine zu ?_
           refine ret0 (x := .c (.v (.bool false))) rfl zn2 ⟨?_, rfl⟩
           rw [zo9 hk (by unfold setAtB; simp_all; try omega)])
        | (refine ⟨N - 1, m + 2, by omega, ⟨by omega, fun j hj => ?_⟩, ?_⟩
           · rcases Nat.lt_or_ge j (m + 1) with h | h
             · exact hall j h
             · obtain rfl : j = m + 1 := by omega
               unfold setAtB; simp_all; try omega
           · (refine zo2 _ _ rfl rfl ?_ ?_ <;> (repeat' (first | exact TmOk.nil | exact RwOk.nil | refine TmOk.cons ?_ ?_ | refine RwOk.cons ?_ ?_ | rfl | (refine rnV_id' rfl ?_; (first | rfl | (simp [cloV, cloL, clo, zj, zf, zk, zg, zd]; done))) | (refine zd3 ?_; first | rfl | omega | (rw [zb2 (by omega) (by omega)]; omega)) | (refine zi2 rfl ?_; (first | rfl | (simp [cloV, cloL, clo, zj, zf, zk, zg, zd]; done))) | exact zj4 rfl rfl | (refine ze3 (by rfl) (by rfl) ?_ ?_ <;> (first | rfl | (simp [cloV, cloL, clo, zj, zf, zk, zg, zd]; done))) | (refine rw_rn' rfl rfl ?_; simp; done)))))
        | skip
  · repeat' (first | ((apply f_wo); first | ((apply f_gs); first | refine n_sk ?_) | ((apply f_mv); first | (refine zw1 ?_ ?_ <;> intro hG <;> (try cases hG)) | refine zg1 (v := .c _) ?_ | refine za ?_) | ((apply f_as); first | refine zf1 (v := .c _) ?_ | refine za ?_) | ((apply f_ca); first | refine zr2 ((zk6 _ _ _)) ?_ | refine zp2 ((zk6 _ _ _)) ?_) | ((apply f_bi); first | refine zd1 ?_ | refine zc1 ?_ | refine ze1 ?_ | refine za ?_) | ((apply za2); first | refine zq ?_ | refine za ?_) | ((apply zq3); first | refine zh1 ?_ | refine za ?_) | ((apply zs3); first | refine zw7 ?_ | refine za ?_) | ((apply zs1); first | refine zo ?_ | refine zr1 ?_ | refine za ?_) | ((apply f_no); first | refine zj2 ?_ | refine za ?_) | ((apply f_pk); first | refine zu1 (v := .c _) ?_ | refine za ?_) | ((apply f_bb); first | refine zg2 ?_ | refine zh2 ?_ | refine za ?_) | refine zx3 ?_ | refine za ?_) | ((apply f_w); first | refine zy ?_ | refine zc ?_) | ((apply d_wo); first | ((apply d_gs); first | refine o_sk ?_ | refine za4 ?_) | ((apply d_bo); (refine o_gm ?_ ?_ <;> intro hG <;> (try cases hG))) | ((apply d_mv); refine zr ?_) | ((apply d_as); refine zr ?_) | ((apply d_ca); first | refine zn5 ((zk6 _ _ _)) ?_) | ((apply d_bi); first | refine zn3 ?_ | refine zm3 ?_ | refine zo3 ?_ | refine zw2 ?_ | refine zw2 (hnu := zl _) ?_ | refine zx1 ?_ | refine zx1 (hnu := zl _) ?_ | refine zr ?_) | ((apply d_bb); first | refine zl1 ?_ | refine zm1 ?_ | refine zn1 ?_ | refine zw3 ?_ | refine zr ?_) | refine zo4 ?_ | refine zr ?_) | ((apply d_w); first | refine zy ?_ | refine zc ?_) | refine zb fun C => ?_ | refine zp (by kernel_rfl) (by kernel_rfl) fun C => ?_ | refine zn ?_ | refine ze ?_ | refine zh ?_ | refine zi ?_ | (refine zt (by rfl) ?_ ?_ <;> intro hC <;> (try cases hC)))
    refine zu ?_
    refine ret0 rfl zn2 ⟨?_, rfl⟩
    rw [zd14 fun j hj => hall j (by simp at h1; omega)]
    refine congrArg (fun s => AV.c (AC.v (Value.bool s))) ?_
    unfold inR
    (rw [Bool.eq_iff_iff]; (try simp only [Bool.and_eq_true, Bool.or_eq_true, Bool.not_eq_true', decide_eq_true_iff, decide_eq_false_iff_not, beq_iff_eq, Bool.and_eq_false_iff, Bool.or_eq_false_iff, bne_iff_ne, ne_eq, Bool.true_eq_false, Bool.false_eq_true, true_iff, false_iff, iff_true, iff_false] at *); first | omega | (simp at *; omega))
theorem zl21 {g : E → Nat} {B : Nat} : ∀ (l : List E) (n : Nat), (∀ x ∈ l, g x ≤ B) → sumS g l n ≤ max n (60 + B)
  | [], n, _ => by unfold sumS; omega
  | x :: r, n, h => by
    unfold sumS
    split
    · have h1 := h x List.mem_cons_self
      have := zl21 r (n + g x) fun y hy => h y (List.mem_cons_of_mem _ hy)
      omega
    · omega
theorem zi14 : ∀ (f : Nat) (e : E), partsS f e ≤ 61 + 60 * f
  | 0, _ => by unfold partsS; omega
  | f + 1, e => by
    have := zl21 e.rl 1 fun x _ => zi14 f x
    unfold partsS; omega
theorem zm21 {g : E → Nat} : ∀ (l : List E) {n : Nat}, 60 < n → sumS g l n = n
  | [], _, _ => rfl
  | x :: r, n, h => by unfold sumS; rw [if_neg (by omega)]
set_option maxHeartbeats 4000000 in
theorem zn21 (f : Nat) : ∀ (e : E) (deep : Nat), f ≤ 6 → e.Ty Try.prog 141 → e.sz ≤ 4194304 → deep + f = 7 → Ctr Try.prog 139 [.ag (acE e), .c (.v (.int .i64 (deep : Int)))] [] (.c (.v (.int .i64 ((partsS f e : Nat) : Int)))) [] := by
  induction f with
  | zero =>
    intro e deep hf he hsz hd
    obtain ⟨x0, x1, x2A, x2c, l, rfl, gx0, gx1, gx2, -⟩ := zq1 he
    obtain rfl : deep = 7 := by omega
    refine zm2 Try.func139 rfl rfl ?_
    repeat' (first | ((apply f_wo); first | ((apply f_gs); first | refine n_sk ?_) | ((apply f_mv); first | (refine zw1 ?_ ?_ <;> intro hG <;> (try cases hG)) | refine zg1 (v := .c _) ?_ | refine za ?_) | ((apply f_as); first | refine zf1 (v := .c _) ?_ | refine za ?_) | ((apply f_fa); first | refine n_fa ?_ | refine zk1 ?_) | ((apply f_ld); first | refine zw ?_ | refine zi1 ?_ | refine n_ld ?_) | ((apply f_bi); first | refine zd1 ?_ | refine zc1 ?_ | refine ze1 ?_ | refine za ?_) | ((apply f_ia); first | refine n_ix ?_ | refine zc2 ?_ | refine za ?_) | ((apply za2); first | refine zq ?_ | refine za ?_) | ((apply zb6); first | refine zj3 ?_ | refine za ?_) | ((apply zq3); first | refine zh1 ?_ | refine za ?_) | ((apply zs1); first | refine zo ?_ | refine zr1 ?_ | refine za ?_) | ((apply f_pk); first | refine zu1 (v := .c _) ?_ | refine za ?_) | refine n_bo ?_ | refine za ?_) | ((apply f_w); first | refine zy ?_ | refine zc ?_) | refine zb fun C => ?_ | refine zn ?_ | refine ze ?_ | refine zh ?_ | refine zi ?_ | refine zx rfl ?_ | refine zv rfl ?_)
    refine zu ?_
    exact ret0 (x := .c (.v (.int .i64 61))) rfl zn2 ⟨rfl, rfl⟩
  | succ f ih =>
    intro e deep hf he hsz hd
    obtain ⟨x0, x1, x2A, x2c, l, rfl, gx0, gx1, gx2, -⟩ := zq1 he
    simp only [E.sz, E.szL] at hsz
    have hl : l.length ≤ 4194304 := by omega
    refine zm2 Try.func139 rfl rfl ?_
    have hres : partsS (f + 1) (E.agg [.int .i64 x0, .str x1, .lst 3 141 x2A x2c l]) = sumS (partsS f) l 1 := rfl
    rw [hres]
    clear hres
    generalize hT : sumS (partsS f) l 1 = tot
    repeat' (first | ((apply f_wo); first | ((apply f_gs); first | refine n_sk ?_) | ((apply f_mv); first | (refine zw1 ?_ ?_ <;> intro hG <;> (try cases hG)) | refine zg1 (v := .c _) ?_ | refine za ?_) | ((apply f_as); first | refine zf1 (v := .c _) ?_ | refine za ?_) | ((apply f_fa); first | refine n_fa ?_ | refine zk1 ?_) | ((apply f_ld); first | refine zw ?_ | refine zi1 ?_ | refine n_ld ?_) | ((apply f_bi); first | refine zd1 ?_ | refine zc1 ?_ | refine ze1 ?_ | refine za ?_) | ((apply f_ia); first | refine n_ix ?_ | refine zc2 ?_ | refine za ?_) | ((apply za2); first | refine zq ?_ | refine za ?_) | ((apply zb6); first | refine zj3 ?_ | refine za ?_) | ((apply zq3); first | refine zh1 ?_ | refine za ?_) | ((apply zs1); first | refine zo ?_ | refine zr1 ?_ | refine za ?_) | ((apply f_pk); first | refine zu1 (v := .c _) ?_ | refine za ?_) | refine n_bo ?_ | refine za ?_) | ((apply f_w); first | refine zy ?_ | refine zc ?_) | refine zb fun C => ?_ | refine zn ?_ | refine ze ?_ | refine zh ?_ | refine zi ?_)
    refine zt (by rfl) (fun h => by exfalso; simp at h; omega) fun _ => ?_
    repeat' (first | ((apply f_wo); first | ((apply f_gs); first | refine n_sk ?_) | ((apply f_mv); first | (refine zw1 ?_ ?_ <;> intro hG <;> (try cases hG)) | refine zg1 (v := .c _) ?_ | refine za ?_) | ((apply f_as); first | refine zf1 (v := .c _) ?_ | refine za ?_) | ((apply f_fa); first | refine n_fa ?_ | refine zk1 ?_) | ((apply f_ld); first | refine zw ?_ | refine zi1 ?_ | refine n_ld ?_) | ((apply f_bi); first | refine zd1 ?_ | refine zc1 ?_ | refine ze1 ?_ | refine za ?_) | ((apply f_ia); first | refine n_ix ?_ | refine zc2 ?_ | refine za ?_) | ((apply za2); first | refine zq ?_ | refine za ?_) | ((apply zb6); first | refine zj3 ?_ | refine za ?_) | ((apply zq3); first | refine zh1 ?_ | refine za ?_) | ((apply zs1); first | refine zo ?_ | refine zr1 ?_ | refine za ?_) | ((apply f_pk); first | refine zu1 (v := .c _) ?_ | refine za ?_) | refine n_bo ?_ | refine za ?_) | ((apply f_w); first | refine zy ?_ | refine zc ?_) | refine zb fun C => ?_ | refine zn ?_ | refine ze ?_ | refine zh ?_ | refine zi ?_)
    refine zp3 (fun d : Nat × Nat => ⟨tmsF [(1, .c (.v (.int .i64 (deep : Int)))), (2, .c (.pt 2 0)), (5, .c (.v (.int .i64 (d.2 : Int)))), (6, .c (.v (.int .i64 (d.1 : Int))))], hpsF [(2, 2, ⟨141, 0, 0, true, [.v (.int .i64 x0), .v (.string x1), .ro l.length 3 (acL l)]⟩)], 0, [2], 31⟩) (fun N d => d.1 + N = l.length ∧ d.2 ≤ 600 ∧ sumS (partsS f) (l.drop d.1) d.2 = tot) l.length (0, 1) ⟨by simp, by simp, hT⟩ ?_ ?_
    · (refine zo2 _ _ rfl rfl ?_ ?_ <;> (repeat' (first | exact TmOk.nil | exact RwOk.nil | refine TmOk.cons ?_ ?_ | refine RwOk.cons ?_ ?_ | rfl | (refine rnV_id' rfl ?_; (first | rfl | (simp [cloV, cloL, clo, zj, zf, zk, zg, zd]; done))) | (refine zd3 ?_; first | rfl | omega | (rw [zb2 (by omega) (by omega)]; omega)) | (refine zi2 rfl ?_; (first | rfl | (simp [cloV, cloL, clo, zj, zf, zk, zg, zd]; done))) | exact zj4 rfl rfl | (refine ze3 (by rfl) (by rfl) ?_ ?_ <;> (first | rfl | (simp [cloV, cloL, clo, zj, zf, zk, zg, zd]; done))) | (refine rw_rn' rfl rfl ?_; simp; done))))
    rintro N ⟨k, n⟩ ⟨hN, hn, hs⟩
    dsimp only at hN hn hs ⊢
    repeat' (first | ((apply f_wo); first | ((apply f_gs); first | refine n_sk ?_) | ((apply f_mv); first | (refine zw1 ?_ ?_ <;> intro hG <;> (try cases hG)) | refine zg1 (v := .c _) ?_ | refine za ?_) | ((apply f_as); first | refine zf1 (v := .c _) ?_ | refine za ?_) | ((apply f_fa); first | refine n_fa ?_ | refine zk1 ?_) | ((apply f_ld); first | refine zw ?_ | refine zi1 ?_ | refine n_ld ?_) | ((apply f_bi); first | refine zd1 ?_ | refine zc1 ?_ | refine ze1 ?_ | refine za ?_) | ((apply f_ia); first | refine n_ix ?_ | refine zc2 ?_ | refine za ?_) | ((apply za2); first | refine zq ?_ | refine za ?_) | ((apply zb6); first | refine zj3 ?_ | refine za ?_) | ((apply zq3); first | refine zh1 ?_ | refine za ?_) | ((apply zs1); first | refine zo ?_ | refine zr1 ?_ | refine za ?_) | ((apply f_pk); first | refine zu1 (v := .c _) ?_ | refine za ?_) | refine n_bo ?_ | refine za ?_) | ((apply f_w); first | refine zy ?_ | refine zc ?_) | refine zb fun C => ?_ | refine zn ?_ | refine ze ?_ | refine zh ?_ | refine zi ?_)
    · have hk : k < l.length := by simpa using hG
      obtain ⟨x, hx⟩ : ∃ x, l[k]? = some x := ⟨_, List.getElem?_eq_getElem hk⟩
      have hd1 : l.drop k = x :: l.drop (k + 1) := by rw [List.drop_eq_getElem_cons hk]; congr 1; rw [List.getElem?_eq_getElem hk] at hx; exact Option.some.inj hx
      refine zt (by rfl) (fun h2 => ?_) fun h2 => ?_
      · have hn2 : n ≤ 60 := by simp only [decide_eq_true_iff] at h2; omega
        have hxt := gx2.1 x (List.mem_of_getElem? hx)
        have hxs := E.szL_mem (List.mem_of_getElem? hx)
        have hc := ih x (deep + 1) (by omega) hxt (by omega) (by omega)
        have hb := zi14 f x
        rw [hd1] at hs
        unfold sumS at hs
        rw [if_pos hn2] at hs
        have hgk := gx2.2
        obtain ⟨y0, y1, y2A, y2c, y2l, rfl, gy0, gy1, gy2, -⟩ := zq1 hxt
        repeat' (first | ((apply f_wo); first | ((apply f_gs); first | refine n_sk ?_) | ((apply f_mv); first | (refine zw1 ?_ ?_ <;> intro hG <;> (try cases hG)) | refine zg1 (v := .c _) ?_ | refine za ?_) | ((apply f_as); first | refine zf1 (v := .c _) ?_ | refine za ?_) | ((apply f_fa); first | refine n_fa ?_ | refine zk1 ?_) | ((apply f_ld); first | refine zw ?_ | refine zi1 ?_ | refine n_ld ?_) | ((apply f_ca); first | refine zr2 (hc) ?_ | refine zp2 (hc) ?_) | ((apply f_bi); first | refine zd1 ?_ | refine zc1 ?_ | refine ze1 ?_ | refine za ?_) | ((apply f_ia); first | refine n_ix ?_ | refine zc2 ?_ | refine za ?_) | ((apply za2); first | refine zq ?_ | refine za ?_) | ((apply zb6); first | refine zj3 ?_ | refine za ?_) | ((apply zq3); first | refine zh1 ?_ | refine za ?_) | ((apply zs1); first | refine zo ?_ | refine zr1 ?_ | refine za ?_) | ((apply f_pk); first | refine zu1 (v := .c _) ?_ | refine za ?_) | refine n_bo ?_ | refine za ?_) | ((apply f_w); first | refine zy ?_ | refine zc ?_) | refine zb fun C => ?_ | refine zn ?_ | refine ze ?_ | refine zh ?_ | refine zi ?_ | (refine zt (by rfl) ?_ ?_ <;> intro hC <;> (try cases hC)))
        refine ⟨N - 1, (k + 1, n + partsS f (E.agg [.int .i64 y0, .str y1, .lst 3 141 y2A y2c y2l])), by omega, ⟨by dsimp only; omega, by dsimp only; omega, hs⟩, ?_⟩
        (refine zo2 _ _ rfl rfl ?_ ?_ <;> (repeat' (first | exact TmOk.nil | exact RwOk.nil | refine TmOk.cons ?_ ?_ | refine RwOk.cons ?_ ?_ | rfl | (refine rnV_id' rfl ?_; (first | rfl | (simp [cloV, cloL, clo, zj, zf, zk, zg, zd]; done))) | (refine zd3 ?_; first | rfl | omega | (rw [zb2 (by omega) (by omega)]; omega)) | (refine zi2 rfl ?_; (first | rfl | (simp [cloV, cloL, clo, zj, zf, zk, zg, zd]; done))) | exact zj4 rfl rfl | (refine ze3 (by rfl) (by rfl) ?_ ?_ <;> (first | rfl | (simp [cloV, cloL, clo, zj, zf, zk, zg, zd]; done))) | (refine rw_rn' rfl rfl ?_; simp; done))))
      · have hn2 : 60 < n := by simp only [decide_eq_false_iff_not] at h2; omega
        rw [zm21 _ hn2] at hs
        repeat' (first | ((apply f_wo); first | ((apply f_gs); first | refine n_sk ?_) | ((apply f_mv); first | (refine zw1 ?_ ?_ <;> intro hG <;> (try cases hG)) | refine zg1 (v := .c _) ?_ | refine za ?_) | ((apply f_as); first | refine zf1 (v := .c _) ?_ | refine za ?_) | ((apply f_fa); first | refine n_fa ?_ | refine zk1 ?_) | ((apply f_ld); first | refine zw ?_ | refine zi1 ?_ | refine n_ld ?_) | ((apply f_bi); first | refine zd1 ?_ | refine zc1 ?_ | refine ze1 ?_ | refine za ?_) | ((apply f_ia); first | refine n_ix ?_ | refine zc2 ?_ | refine za ?_) | ((apply za2); first | refine zq ?_ | refine za ?_) | ((apply zb6); first | refine zj3 ?_ | refine za ?_) | ((apply zq3); first | refine zh1 ?_ | refine za ?_) | ((apply zs1); first | refine zo ?_ | refine zr1 ?_ | refine za ?_) | ((apply f_pk); first | refine zu1 (v := .c _) ?_ | refine za ?_) | refine n_bo ?_ | refine za ?_) | ((apply f_w); first | refine zy ?_ | refine zc ?_) | refine zb fun C => ?_ | refine zn ?_ | refine ze ?_ | refine zh ?_ | refine zi ?_ | (refine zt (by rfl) ?_ ?_ <;> intro hC <;> (try cases hC)))
        refine zu ?_
        refine ret0 (x := .c (.v (.int .i64 (n : Int)))) rfl zn2 ⟨?_, rfl⟩
        rw [hs]
    · have hk : k = l.length := by simp at hG; omega
      repeat' (first | ((apply f_wo); first | ((apply f_gs); first | refine n_sk ?_) | ((apply f_mv); first | (refine zw1 ?_ ?_ <;> intro hG <;> (try cases hG)) | refine zg1 (v := .c _) ?_ | refine za ?_) | ((apply f_as); first | refine zf1 (v := .c _) ?_ | refine za ?_) | ((apply f_fa); first | refine n_fa ?_ | refine zk1 ?_) | ((apply f_ld); first | refine zw ?_ | refine zi1 ?_ | refine n_ld ?_) | ((apply f_bi); first | refine zd1 ?_ | refine zc1 ?_ | refine ze1 ?_ | refine za ?_) | ((apply f_ia); first | refine n_ix ?_ | refine zc2 ?_ | refine za ?_) | ((apply za2); first | refine zq ?_ | refine za ?_) | ((apply zb6); first | refine zj3 ?_ | refine za ?_) | ((apply zq3); first | refine zh1 ?_ | refine za ?_) | ((apply zs1); first | refine zo ?_ | refine zr1 ?_ | refine za ?_) | ((apply f_pk); first | refine zu1 (v := .c _) ?_ | refine za ?_) | refine n_bo ?_ | refine za ?_) | ((apply f_w); first | refine zy ?_ | refine zc ?_) | refine zb fun C => ?_ | refine zn ?_ | refine ze ?_ | refine zh ?_ | refine zi ?_ | refine zx rfl ?_ | refine zv rfl ?_)
      refine zu ?_
      refine ret0 (x := .c (.v (.int .i64 (n : Int)))) rfl zn2 ⟨?_, rfl⟩
      rw [hk, List.drop_length] at hs
      rw [← hs]; rfl
end Go.Proofs.Ytghljnfbbaklnaa
