/- Tokens joined by the program; rows of tokens compared by the laws. -/
import Derived.Test.YtnlgmojciplnoaaDoorLxdPT
namespace Go.Proofs.YtnlgmojciplnoaaDoor
open Go.RowKit
set_option maxRecDepth 100000
theorem T_size {t : T3} (h : tokOk t.1 t.2.1 t.2.2 = true) : 1 ≤ t.T.size ∧ t.T.size ≤ 202 := by
  obtain ⟨k, n, s⟩ := t
  have hz := zi7 h
  dsimp only at h hz
  show 1 ≤ (tkT k n s).size ∧ (tkT k n s).size ≤ 202
  unfold tkT
  rw [if_pos h]
  split
  · have h1 := zd11 hz.2.1
    have h2 : (numT n).size ≤ 10 := by
      have h3 := zz10 9 n.toNat (Nat.lt_of_le_of_lt (show n.toNat ≤ 2147483647 by omega) (by decide))
      rw [← zg7 hz.2.1] at h3
      exact h3
    omega
  · split
    · rw [ByteArray.size_append', ByteArray.size_append']
      have : (⟨#[39]⟩ : ByteArray).size = 1 := rfl
      omega
    · split
      · rw [ByteArray.size_append', ByteArray.size_append']
        have : (⟨#[47]⟩ : ByteArray).size = 1 := rfl
        omega
      · rename_i k1 k3 k4
        refine ⟨?_, by omega⟩
        unfold tokOk at h
        rw [if_neg k1, if_neg k3, if_neg k4] at h
        split at h
        · simp only [nameW, Bool.and_eq_true, decide_eq_true_iff] at h; omega
        · split at h
          · simp only [Bool.and_eq_true, decide_eq_true_iff] at h
            have := h.1
            simp only [markB, Bool.or_eq_true, Bool.and_eq_true, decide_eq_true_iff] at this
            omega
          · cases h
theorem zh11 {l : List T3} : ∀ e ∈ l.map T3.E, e.enc.length = 3 := fun e he => by obtain ⟨t, -, rfl⟩ := List.mem_map.1 he; rfl
theorem zx6 {l : List T3} (hl : l.length ≤ 2000) (hok : ∀ t ∈ l, tokOk t.1 t.2.1 t.2.2 = true) : Ctr Tryd.prog 9 [.c (.ro (l.map T3.E).length 3 (acL (l.map T3.E)))] [] (.c (.v (.string (joinB (l.map tStr) ⟨#[32]⟩)))) [] := by
  have hk := zh11 (l := l)
  have hsz : ∀ x ∈ l.map tStr, (strB x).size ≤ 202 := fun x hx => by
    obtain ⟨t, ht, rfl⟩ := List.mem_map.1 hx
    exact (T_size (hok t ht)).2
  have hj := zm8 (sep := ⟨#[32]⟩) (l.map tStr) hsz (l.map tStr).length (Nat.le_refl _)
  have h1 : (⟨#[32]⟩ : ByteArray).size = 1 := rfl
  rw [List.take_length, h1] at hj
  have hll : (l.map tStr).length = l.length := List.length_map ..
  have cj := zg21 (l := l.map tStr) (fun e he => by obtain ⟨t, -, rfl⟩ := List.mem_map.1 he; exact ⟨_, rfl⟩) ⟨#[32]⟩ (by omega) (by omega)
  refine zf2 Tryd.func9 rfl rfl ?_
  repeat' (first | ((apply f_wo); first | ((apply f_mv); first | refine zw (v := .c _) ?_ | refine za ?_) | ((apply f_as); first | refine zv (v := .c _) ?_ | refine za ?_) | ((apply f_ld); first | refine zr2 ?_ | refine zm3 ?_ | refine n_ld ?_) | ((apply f_bi); first | refine zd1 ?_ | refine zc1 ?_ | refine ze1 ?_ | refine zw2 ?_ | refine zw2 (hnu := ze _) ?_ | refine zz1 ?_ | refine zz1 (hnu := ze _) ?_ | refine za ?_) | ((apply f_st); first | refine n_st ?_ | refine zx2 ?_) | ((apply f_ia); first | refine n_ix ?_ | refine zy2 ?_ | refine za ?_) | ((apply zy1); first | refine zm ?_ | refine za ?_) | ((apply zt1); first | refine zi ?_ | refine zs1 ?_ | refine za ?_) | refine n_al ?_ | refine n_bs ?_ | refine za ?_) | ((apply f_w); first | refine zx ?_ | refine zc ?_) | refine zb fun C => ?_ | refine zl ?_ | refine zd ?_ | refine zf ?_ | refine zg ?_)
  refine zy3 (fun k : Nat => ⟨tmsF [(3, .c (.sl 9 k)), (6, .c (.ro (l.map T3.E).length 3 (acL (l.map T3.E)))), (7, .c (.v (.int .i64 (l.map T3.E).length))), (8, .c (.v (.int .i64 k)))], hpsF [(9, 9, ⟨9, 1, k, false, owL ((l.take k).map tStr)⟩)], 0, [9], 20⟩)
    (fun N k => k + N = l.length) l.length 0 (by omega) ?_ ?_
  · refine (zx9 9 (t := 3) 9 1 rfl rfl).trans ?_
    (refine zt2 _ _ rfl rfl ?_ ?_ <;> (repeat' (first | exact TmOk.nil | exact RwOk.nil | refine TmOk.cons ?_ ?_ | refine RwOk.cons ?_ ?_ | rfl | (refine rnV_id' rfl ?_; (first | rfl | (simp [cloV, cloL, clo, zn, zk, zo, zj, zh]; done))) | (refine zh3 ?_; first | rfl | omega | (rw [za2 (by omega) (by omega)]; omega)) | (refine zb1 rfl ?_; (first | rfl | (simp [cloV, cloL, clo, zn, zk, zo, zj, zh]; done))) | exact zu3 rfl rfl | (refine zi3 (by rfl) (by rfl) ?_ ?_ <;> (first | rfl | (simp [cloV, cloL, clo, zn, zk, zo, zj, zh]; done))) | (refine rw_rn' rfl rfl ?_; simp; done))))
  rintro N k hN
  try dsimp only
  repeat' (first | ((apply f_wo); first | ((apply f_mv); first | refine zw (v := .c _) ?_ | refine za ?_) | ((apply f_as); first | refine zv (v := .c _) ?_ | refine za ?_) | ((apply f_ld); first | refine zr2 ?_ | refine zm3 ?_ | refine n_ld ?_) | ((apply f_bi); first | refine zd1 ?_ | refine zc1 ?_ | refine ze1 ?_ | refine zw2 ?_ | refine zw2 (hnu := ze _) ?_ | refine zz1 ?_ | refine zz1 (hnu := ze _) ?_ | refine za ?_) | ((apply f_st); first | refine n_st ?_ | refine zx2 ?_) | ((apply f_ia); first | refine n_ix ?_ | refine zy2 ?_ | refine za ?_) | ((apply zy1); first | refine zm ?_ | refine za ?_) | ((apply zt1); first | refine zi ?_ | refine zs1 ?_ | refine za ?_) | refine n_al ?_ | refine n_bs ?_ | refine za ?_) | ((apply f_w); first | refine zx ?_ | refine zc ?_) | refine zb fun C => ?_ | refine zl ?_ | refine zd ?_ | refine zf ?_ | refine zg ?_)
  refine zu (by rfl) (fun hk1 => ?_) fun hk1 => ?_
  · have hk' : k < l.length := by simpa using hk1
    obtain ⟨t, hx⟩ : ∃ x, l[k]? = some x := ⟨_, List.getElem?_eq_getElem hk'⟩
    have hxm := List.mem_of_getElem? hx
    have hxe : (l.map T3.E)[k]? = some t.E := by rw [List.getElem?_map, hx]; rfl
    have htk := hok t hxm
    have hts := (zi7 htk).1
    have c3 := zs5 (s := t.2.2) (by omega) (k := t.1) (n := t.2.1)
    have e : (l.take (k + 1)).map tStr = (l.take k).map tStr ++ [tStr t] := by rw [List.take_add_one, hx, Option.toList_some, List.map_append]; rfl
    obtain ⟨t1, t2, t3⟩ := t
    have hxe : (l.map T3.E)[k]? = some (E.agg [.int .i64 t1, .int .i64 t2, .str t3]) := hxe
    repeat' (first | ((apply f_wo); first | ((apply f_mv); first | refine zw (v := .c _) ?_ | refine za ?_) | ((apply f_as); first | refine zv (v := .c _) ?_ | refine za ?_) | ((apply f_ld); first | refine zr2 ?_ | refine zm3 ?_ | refine n_ld ?_) | ((apply f_ca); first | refine zn1 (c3) ?_ | refine zm1 (c3) ?_) | ((apply f_bi); first | refine zd1 ?_ | refine zc1 ?_ | refine ze1 ?_ | refine zw2 ?_ | refine zw2 (hnu := ze _) ?_ | refine zz1 ?_ | refine zz1 (hnu := ze _) ?_ | refine za ?_) | ((apply f_st); first | refine n_st ?_ | refine zx2 ?_) | ((apply f_ia); first | refine n_ix ?_ | refine zy2 ?_ | refine za ?_) | ((apply zy1); first | refine zm ?_ | refine za ?_) | ((apply zt1); first | refine zi ?_ | refine zs1 ?_ | refine za ?_) | refine n_al ?_ | refine n_bs ?_ | refine za ?_) | ((apply f_w); first | refine zx ?_ | refine zc ?_) | refine zb fun C => ?_ | refine zl ?_ | refine zd ?_ | refine zf ?_ | refine zg ?_ | refine zq rfl ?_ | refine zr rfl ?_)
    refine ⟨N - 1, k + 1, by omega, by omega, ?_⟩
    rw [e]
    (refine zv9 (fun j => if j = 9 then 16 else j) _ _ rfl rfl ?_ ?_ <;> (repeat' (first | exact TmOk.nil | exact RwOk.nil | refine TmOk.cons ?_ ?_ | refine RwOk.cons ?_ ?_ | rfl | (refine rnV_id' rfl ?_; (first | rfl | (simp [cloV, cloL, clo, zn, zk, zo, zj, zh]; done))) | (refine zh3 ?_; first | rfl | omega | (rw [za2 (by omega) (by omega)]; omega)) | (refine zb1 rfl ?_; (first | rfl | (simp [cloV, cloL, clo, zn, zk, zo, zj, zh]; done))) | exact zu3 rfl rfl | (refine zi3 (by rfl) (by rfl) ?_ ?_ <;> (first | rfl | (simp [cloV, cloL, clo, zn, zk, zo, zj, zh]; done))) | (refine rw_rn' rfl rfl ?_; simp; done))))
    exact zu14 (r := ⟨9, 1, k + 1, false, owL ((l.take k).map tStr) ++ [.v (.string (tkT t1 t2 t3))]⟩) rfl (by rw [zo6]; rfl) (by first | rfl | (simp [cloV, cloL, clo, zn, zk, zo, zj, zh]; done))
  · have hk' : ¬ k < l.length := by simpa using hk1
    obtain rfl : k = l.length := by omega
    rw [List.take_length]
    rw [hll] at cj
    repeat' (first | ((apply f_wo); first | ((apply f_mv); first | refine zw (v := .c _) ?_ | refine za ?_) | ((apply f_as); first | refine zv (v := .c _) ?_ | refine za ?_) | ((apply f_ld); first | refine zr2 ?_ | refine zm3 ?_ | refine n_ld ?_) | ((apply f_ca); first | refine zn1 (cj) ?_ | refine zm1 (cj) ?_) | ((apply f_bi); first | refine zd1 ?_ | refine zc1 ?_ | refine ze1 ?_ | refine zw2 ?_ | refine zw2 (hnu := ze _) ?_ | refine zz1 ?_ | refine zz1 (hnu := ze _) ?_ | refine za ?_) | ((apply f_st); first | refine n_st ?_ | refine zx2 ?_) | ((apply f_ia); first | refine n_ix ?_ | refine zy2 ?_ | refine za ?_) | ((apply zy1); first | refine zm ?_ | refine za ?_) | ((apply zt1); first | refine zi ?_ | refine zs1 ?_ | refine za ?_) | refine n_al ?_ | refine n_bs ?_ | refine za ?_) | ((apply f_w); first | refine zx ?_ | refine zc ?_) | refine zb fun C => ?_ | refine zl ?_ | refine zd ?_ | refine zf ?_ | refine zg ?_ | (refine zu (by rfl) ?_ ?_ <;> intro hC <;> (try cases hC)))
    all_goals
      refine zy ?_; refine ret0 rfl zc2 ⟨?_, rfl⟩; rfl
section
variable {ops : Array Oper} {Q : Exit → Act → World → Prop} {C : Ctx} {H : List (Nat × Oper × Inf)} {i : Nat} {r : List Nat} {dr : Bool}
variable {tm : Nat → AV} {hp : Nat → Option Row} {gn L : Nat} {us : List Nat}
theorem zx17 {t : Nat} {gd : Option (Nat × Bool)} {ps : String} {af : Array Edge} {ty ty' : TypeId} {xo yo : Operand} {a0 a1 : Int} {a2 : ByteArray} (h : Walk Tryd.prog ops Q C dr (keepH dr (i, (⟨some t, .binOp .neq 31 xo yo ty', ty, ps, af, gd⟩ : Oper), ⟨fpO (AS.ev ⟨tm, hp, gn, us, L⟩) (⟨some t, .binOp .neq 31 xo yo ty', ty, ps, af, gd⟩ : Oper), [], [], .c (.v (.bool false))⟩) H) r ⟨upd tm t (.c (.v (.bool false))), hp, gn, us, L⟩)
    (ht : Nat.blt t L = true := by exact rfl) (hg : gw ops tm (⟨some t, .binOp .neq 31 xo yo ty', ty, ps, af, gd⟩ : Oper) = some true := by exact rfl) (hx : AS.ev ⟨tm, hp, gn, us, L⟩ xo = .ag [.v (.int .i64 a0), .v (.int .i64 a1), .v (.string a2)] := by exact rfl) (hy : AS.ev ⟨tm, hp, gn, us, L⟩ yo = .ag [.v (.int .i64 a0), .v (.int .i64 a1), .v (.string a2)] := by exact rfl)
    (hc : chk dr ops i (⟨some t, .binOp .neq 31 xo yo ty', ty, ps, af, gd⟩ : Oper) ⟨fpO (AS.ev ⟨tm, hp, gn, us, L⟩) (⟨some t, .binOp .neq 31 xo yo ty', ty, ps, af, gd⟩ : Oper), [], [], .c (.v (.bool false))⟩ H = true := by first | (with_reducible exact zo1) | kernel_rfl) : WalkO Tryd.prog ops Q C dr H i (⟨some t, .binOp .neq 31 xo yo ty', ty, ps, af, gd⟩ : Oper) r ⟨tm, hp, gn, us, L⟩ :=
  ⟨fun hop => zd21 (xs := [.int .i64 a0, .int .i64 a1, .string a2]) (ys := [.int .i64 a0, .int .i64 a1, .string a2]) (b := true) (q := false) hop rfl rfl ht hg (by kernel_rfl) (by rw [hx]; rfl) (by rw [hy]; rfl) (fun w => by rw [ze10]; simp) (.inr ⟨rfl, rfl⟩) hc h⟩
end
theorem zi10 {l : List T3} (hl : l.length ≤ 1048576) : Ctr Tryd.prog 12 [.c (.ro (l.map T3.E).length 3 (acL (l.map T3.E))), .c (.ro (l.map T3.E).length 3 (acL (l.map T3.E)))] [] (.c (.v (.bool true))) [] := by
  have hk := zh11 (l := l)
  have hll : (l.map T3.E).length = l.length := List.length_map ..
  refine zf2 Tryd.func12 rfl rfl ?_
  repeat' (first | ((apply f_wo); first | ((apply f_mv); first | refine zw (v := .c _) ?_ | refine za ?_) | ((apply f_as); first | refine zv (v := .c _) ?_ | refine za ?_) | ((apply f_ld); first | refine zr2 ?_ | refine zm3 ?_ | refine n_ld ?_) | ((apply f_bi); first | refine zd1 ?_ | refine zc1 ?_ | refine ze1 ?_ | refine za ?_) | ((apply f_ia); first | refine n_ix ?_ | refine zy2 ?_ | refine za ?_) | ((apply zz2); first | refine zo5 ?_ | refine za ?_) | ((apply zy1); first | refine zm ?_ | refine za ?_) | ((apply zt1); first | refine zi ?_ | refine zs1 ?_ | refine za ?_) | refine za ?_) | ((apply f_w); first | refine zx ?_ | refine zc ?_) | ((apply d_wo); first | ((apply d_mv); refine zp ?_) | ((apply d_as); refine zp ?_) | ((apply d_ld); first | refine zf5 ?_ | refine zb4 ?_ | refine zc4 ?_ | refine zg5 ?_ | refine zp ?_ | refine o_ld ?_) | ((apply d_bi); first | refine zd3 ?_ | refine zc3 ?_ | refine ze3 ?_ | refine zg2 ?_ | refine zg2 (hnu := ze _) ?_ | refine zu1 ?_ | refine zu1 (hnu := ze _) ?_ | refine zp ?_) | ((apply d_ia); first | refine o_ix ?_ | refine ze8 ?_ | refine zp ?_) | ((apply d_bb); first | refine zh1 ?_ | refine zi1 ?_ | refine zj1 ?_ | refine zk3 ?_ | refine zp ?_) | refine zp ?_) | ((apply d_w); first | refine zx ?_ | refine zc ?_) | refine zb fun C => ?_ | refine zt (by kernel_rfl) (by kernel_rfl) fun C => ?_ | refine zl ?_ | refine zd ?_ | refine zf ?_ | refine zg ?_)
  refine zu (by rfl) (fun hC => by exfalso; simp at hC) fun hC => ?_
  repeat' (first | ((apply f_wo); first | ((apply f_mv); first | refine zw (v := .c _) ?_ | refine za ?_) | ((apply f_as); first | refine zv (v := .c _) ?_ | refine za ?_) | ((apply f_ld); first | refine zr2 ?_ | refine zm3 ?_ | refine n_ld ?_) | ((apply f_bi); first | refine zd1 ?_ | refine zc1 ?_ | refine ze1 ?_ | refine za ?_) | ((apply f_ia); first | refine n_ix ?_ | refine zy2 ?_ | refine za ?_) | ((apply zz2); first | refine zo5 ?_ | refine za ?_) | ((apply zy1); first | refine zm ?_ | refine za ?_) | ((apply zt1); first | refine zi ?_ | refine zs1 ?_ | refine za ?_) | refine za ?_) | ((apply f_w); first | refine zx ?_ | refine zc ?_) | ((apply d_wo); first | ((apply d_mv); refine zp ?_) | ((apply d_as); refine zp ?_) | ((apply d_ld); first | refine zf5 ?_ | refine zb4 ?_ | refine zc4 ?_ | refine zg5 ?_ | refine zp ?_ | refine o_ld ?_) | ((apply d_bi); first | refine zd3 ?_ | refine zc3 ?_ | refine ze3 ?_ | refine zg2 ?_ | refine zg2 (hnu := ze _) ?_ | refine zu1 ?_ | refine zu1 (hnu := ze _) ?_ | refine zp ?_) | ((apply d_ia); first | refine o_ix ?_ | refine ze8 ?_ | refine zp ?_) | ((apply d_bb); first | refine zh1 ?_ | refine zi1 ?_ | refine zj1 ?_ | refine zk3 ?_ | refine zp ?_) | refine zp ?_) | ((apply d_w); first | refine zx ?_ | refine zc ?_) | refine zb fun C => ?_ | refine zt (by kernel_rfl) (by kernel_rfl) fun C => ?_ | refine zl ?_ | refine zd ?_ | refine zf ?_ | refine zg ?_)
  refine zy3 (fun k : Nat => ⟨tmsF [(0, .c (.ro (l.map T3.E).length 3 (acL (l.map T3.E)))), (1, .c (.ro (l.map T3.E).length 3 (acL (l.map T3.E)))), (5, .c (.v (.int .i64 (k : Int))))], hpsF [], 0, [], 26⟩)
    (fun N k => k + N = l.length) l.length 0 (by omega) ?_ ?_
  · (refine zt2 _ _ rfl rfl ?_ ?_ <;> (repeat' (first | exact TmOk.nil | exact RwOk.nil | refine TmOk.cons ?_ ?_ | refine RwOk.cons ?_ ?_ | rfl | (refine rnV_id' rfl ?_; (first | rfl | (simp [cloV, cloL, clo, zn, zk, zo, zj, zh]; done))) | (refine zh3 ?_; first | rfl | omega | (rw [za2 (by omega) (by omega)]; omega)) | (refine zb1 rfl ?_; (first | rfl | (simp [cloV, cloL, clo, zn, zk, zo, zj, zh]; done))) | exact zu3 rfl rfl | (refine zi3 (by rfl) (by rfl) ?_ ?_ <;> (first | rfl | (simp [cloV, cloL, clo, zn, zk, zo, zj, zh]; done))) | (refine rw_rn' rfl rfl ?_; simp; done))))
  rintro N k hN
  try dsimp only
  repeat' (first | ((apply f_wo); first | ((apply f_mv); first | refine zw (v := .c _) ?_ | refine za ?_) | ((apply f_as); first | refine zv (v := .c _) ?_ | refine za ?_) | ((apply f_ld); first | refine zr2 ?_ | refine zm3 ?_ | refine n_ld ?_) | ((apply f_bi); first | refine zd1 ?_ | refine zc1 ?_ | refine ze1 ?_ | refine za ?_) | ((apply f_ia); first | refine n_ix ?_ | refine zy2 ?_ | refine za ?_) | ((apply zz2); first | refine zo5 ?_ | refine za ?_) | ((apply zy1); first | refine zm ?_ | refine za ?_) | ((apply zt1); first | refine zi ?_ | refine zs1 ?_ | refine za ?_) | refine za ?_) | ((apply f_w); first | refine zx ?_ | refine zc ?_) | ((apply d_wo); first | ((apply d_mv); refine zp ?_) | ((apply d_as); refine zp ?_) | ((apply d_ld); first | refine zf5 ?_ | refine zb4 ?_ | refine zc4 ?_ | refine zg5 ?_ | refine zp ?_ | refine o_ld ?_) | ((apply d_bi); first | refine zd3 ?_ | refine zc3 ?_ | refine ze3 ?_ | refine zg2 ?_ | refine zg2 (hnu := ze _) ?_ | refine zu1 ?_ | refine zu1 (hnu := ze _) ?_ | refine zp ?_) | ((apply d_ia); first | refine o_ix ?_ | refine ze8 ?_ | refine zp ?_) | ((apply d_bb); first | refine zh1 ?_ | refine zi1 ?_ | refine zj1 ?_ | refine zk3 ?_ | refine zp ?_) | refine zp ?_) | ((apply d_w); first | refine zx ?_ | refine zc ?_) | refine zb fun C => ?_ | refine zt (by kernel_rfl) (by kernel_rfl) fun C => ?_ | refine zl ?_ | refine zd ?_ | refine zf ?_ | refine zg ?_)
  refine zu (by rfl) (fun h1 => ?_) fun h1 => ?_
  · have hk' : k < l.length := by simpa using h1
    obtain ⟨t, hx⟩ : ∃ x, l[k]? = some x := ⟨_, List.getElem?_eq_getElem hk'⟩
    obtain ⟨t1, t2, t3⟩ := t
    have hxe : (l.map T3.E)[k]? = some (E.agg [.int .i64 t1, .int .i64 t2, .str t3]) := by rw [List.getElem?_map, hx]; rfl
    repeat' (first | ((apply d_wo); refine zx17 ?_) | ((apply f_wo); first | ((apply f_mv); first | refine zw (v := .c _) ?_ | refine za ?_) | ((apply f_as); first | refine zv (v := .c _) ?_ | refine za ?_) | ((apply f_ld); first | refine zr2 ?_ | refine zm3 ?_ | refine n_ld ?_) | ((apply f_bi); first | refine zd1 ?_ | refine zc1 ?_ | refine ze1 ?_ | refine za ?_) | ((apply f_ia); first | refine n_ix ?_ | refine zy2 ?_ | refine za ?_) | ((apply zz2); first | refine zo5 ?_ | refine za ?_) | ((apply zy1); first | refine zm ?_ | refine za ?_) | ((apply zt1); first | refine zi ?_ | refine zs1 ?_ | refine za ?_) | refine za ?_) | ((apply f_w); first | refine zx ?_ | refine zc ?_) | ((apply d_wo); first | ((apply d_mv); refine zp ?_) | ((apply d_as); refine zp ?_) | ((apply d_ld); first | refine zf5 ?_ | refine zb4 ?_ | refine zc4 ?_ | refine zg5 ?_ | refine zp ?_ | refine o_ld ?_) | ((apply d_bi); first | refine zd3 ?_ | refine zc3 ?_ | refine ze3 ?_ | refine zg2 ?_ | refine zg2 (hnu := ze _) ?_ | refine zu1 ?_ | refine zu1 (hnu := ze _) ?_ | refine zp ?_) | ((apply d_ia); first | refine o_ix ?_ | refine ze8 ?_ | refine zp ?_) | ((apply d_bb); first | refine zh1 ?_ | refine zi1 ?_ | refine zj1 ?_ | refine zk3 ?_ | refine zp ?_) | refine zp ?_) | ((apply d_w); first | refine zx ?_ | refine zc ?_) | refine zb fun C => ?_ | refine zt (by kernel_rfl) (by kernel_rfl) fun C => ?_ | refine zl ?_ | refine zd ?_ | refine zf ?_ | refine zg ?_ | refine zq rfl ?_ | refine zr rfl ?_)
    refine ⟨N - 1, k + 1, by omega, by omega, ?_⟩
    (refine zt2 _ _ rfl rfl ?_ ?_ <;> (repeat' (first | exact TmOk.nil | exact RwOk.nil | refine TmOk.cons ?_ ?_ | refine RwOk.cons ?_ ?_ | rfl | (refine rnV_id' rfl ?_; (first | rfl | (simp [cloV, cloL, clo, zn, zk, zo, zj, zh]; done))) | (refine zh3 ?_; first | rfl | omega | (rw [za2 (by omega) (by omega)]; omega)) | (refine zb1 rfl ?_; (first | rfl | (simp [cloV, cloL, clo, zn, zk, zo, zj, zh]; done))) | exact zu3 rfl rfl | (refine zi3 (by rfl) (by rfl) ?_ ?_ <;> (first | rfl | (simp [cloV, cloL, clo, zn, zk, zo, zj, zh]; done))) | (refine rw_rn' rfl rfl ?_; simp; done))))
  · repeat' (first | ((apply f_wo); first | ((apply f_mv); first | refine zw (v := .c _) ?_ | refine za ?_) | ((apply f_as); first | refine zv (v := .c _) ?_ | refine za ?_) | ((apply f_ld); first | refine zr2 ?_ | refine zm3 ?_ | refine n_ld ?_) | ((apply f_bi); first | refine zd1 ?_ | refine zc1 ?_ | refine ze1 ?_ | refine za ?_) | ((apply f_ia); first | refine n_ix ?_ | refine zy2 ?_ | refine za ?_) | ((apply zz2); first | refine zo5 ?_ | refine za ?_) | ((apply zy1); first | refine zm ?_ | refine za ?_) | ((apply zt1); first | refine zi ?_ | refine zs1 ?_ | refine za ?_) | refine za ?_) | ((apply f_w); first | refine zx ?_ | refine zc ?_) | ((apply d_wo); first | ((apply d_mv); refine zp ?_) | ((apply d_as); refine zp ?_) | ((apply d_ld); first | refine zf5 ?_ | refine zb4 ?_ | refine zc4 ?_ | refine zg5 ?_ | refine zp ?_ | refine o_ld ?_) | ((apply d_bi); first | refine zd3 ?_ | refine zc3 ?_ | refine ze3 ?_ | refine zg2 ?_ | refine zg2 (hnu := ze _) ?_ | refine zu1 ?_ | refine zu1 (hnu := ze _) ?_ | refine zp ?_) | ((apply d_ia); first | refine o_ix ?_ | refine ze8 ?_ | refine zp ?_) | ((apply d_bb); first | refine zh1 ?_ | refine zi1 ?_ | refine zj1 ?_ | refine zk3 ?_ | refine zp ?_) | refine zp ?_) | ((apply d_w); first | refine zx ?_ | refine zc ?_) | refine zb fun C => ?_ | refine zt (by kernel_rfl) (by kernel_rfl) fun C => ?_ | refine zl ?_ | refine zd ?_ | refine zf ?_ | refine zg ?_ | refine zq rfl ?_ | refine zr rfl ?_)
    refine zy ?_; refine ret0 rfl zc2 ⟨?_, rfl⟩; rfl
end Go.Proofs.YtnlgmojciplnoaaDoor
-- MVP
namespace Go.Proofs.YtnlgmojciplnoaaDoor
open Go.RowKit
set_option maxRecDepth 100000
theorem zv22 {n : Nat} {l : List AC} (hn : n ≤ 9223372036854775807) : Ctr Tryd.prog 6 [.c (.ro n 1 l)] [] (.c (.v (.bool (decide (1048576 < (n : Int)))))) [] := by
  refine zf2 Tryd.func6 rfl rfl ?_
  repeat' (first | ((apply f_wo); first | ((apply f_mv); first | refine zw (v := .c _) ?_ | refine za ?_) | ((apply f_as); first | refine zv (v := .c _) ?_ | refine za ?_) | ((apply f_bi); first | refine zd1 ?_ | refine zc1 ?_ | refine ze1 ?_ | refine za ?_) | ((apply zg3); first | refine za1 ?_ | refine za ?_) | refine za ?_) | ((apply f_w); first | refine zx ?_ | refine zc ?_) | refine zb fun C => ?_ | refine zl ?_ | refine zd ?_ | refine zf ?_ | refine zg ?_ | (refine zu (by rfl) ?_ ?_ <;> intro hC <;> (try cases hC)))
  refine zy ?_; refine ret0 rfl zc2 ⟨?_, rfl⟩
  rfl
end Go.Proofs.YtnlgmojciplnoaaDoor
namespace Go.Proofs.YtnlgmojciplnoaaDoor
open Go.RowKit
set_option maxRecDepth 100000
theorem zj16 : ∀ {l : List T3} {k : Nat} {t : T3}, l[k]? = some t → subL (owL (l.map T3.E)) (k * 3) (Tryd.prog.cellsOf 31) = [.v (.int .i64 t.1), .v (.int .i64 t.2.1), .v (.string t.2.2)]
  | [], k, t, h => by simp at h
  | x :: l, 0, t, h => by
    have : x = t := by simpa using h
    subst this
    rfl
  | x :: l, k + 1, t, h => by
    have h' : l[k]? = some t := by simpa using h
    rw [← zj16 h', show (k + 1) * 3 = k * 3 + 3 by omega]
    show subL ([.v (.int .i64 x.1), .v (.int .i64 x.2.1), .v (.string x.2.2)] ++ owL (l.map T3.E)) _ _ = _
    unfold subL
    congr 1
set_option maxHeartbeats 8000000 in
theorem zp20 {bs : List UInt8} (hsz : bs.length ≤ 9223372036854775807) : Ctr Tryd.prog 3 [.c (.ro bs.length 1 (acL (bE8 bs)))] [] (.c (.v (.bool true))) [] := by
  have cb := zv22 (l := acL (bE8 bs)) hsz
  by_cases hbig : 1048576 < (bs.length : Int)
  · rw [decide_eq_true hbig] at cb
    refine zf2 Tryd.func3 rfl rfl ?_
    repeat' (first | ((apply f_wo); first | ((apply f_gs); first | refine n_sk ?_) | ((apply f_mv); first | (refine zx1 ?_ ?_ <;> intro hG <;> (try cases hG)) | refine zw (v := .c _) ?_ | refine zw (v := .tu _) ?_ | refine za ?_) | ((apply f_as); first | refine zv (v := .c _) ?_ | refine zv (v := .tu _) ?_ | refine za ?_) | ((apply f_ld); first | refine zr2 ?_ | refine zm3 ?_ | refine n_ld ?_) | ((apply f_ca); first | refine zn1 (cb) ?_ | refine zm1 (cb) ?_) | ((apply f_bi); first | refine zd1 ?_ | refine zc1 ?_ | refine ze1 ?_ | refine za ?_) | ((apply f_ia); first | refine n_ix ?_ | refine zy2 ?_ | refine za ?_) | ((apply zb2); first | refine zk1 ?_ | refine zf4 ?_ | refine za ?_) | ((apply zy1); first | refine zm ?_ | refine za ?_) | ((apply zt1); first | refine zi ?_ | refine zs1 ?_ | refine za ?_) | ((apply f_no); first | refine zl3 ?_ | refine za ?_) | ((apply f_pk); first | refine zg1 (v := .c _) ?_ | refine zg1 (v := .tu _) ?_ | refine za ?_) | ((apply f_ex); first | refine zw1 (v := .c _) ?_ | refine zw1 (v := .tu _) ?_ | refine za ?_) | refine za ?_) | ((apply f_w); first | refine zx ?_ | refine zc ?_) | refine zb fun C => ?_ | refine zl ?_ | refine zd ?_ | refine zf ?_ | refine zg ?_ | refine zq rfl ?_ | refine zr rfl ?_)
    refine zy ?_; refine ret0 rfl zc2 ⟨?_, rfl⟩
    rfl
  rw [decide_eq_false hbig] at cb
  obtain ⟨l, hch, hl, -, cD⟩ := DrawJoinTokens_c (bs := bs) (by omega)
  have hok := zx15 hch
  have cJ := zx6 (l := l) (by omega) hok
  have hw := zc16 hch (by omega)
  have hll : (l.map T3.E).length = l.length := List.length_map ..
  have hJ : (joinB (l.map tStr) ⟨#[32]⟩).size ≤ 1048576 := by
    have hsz : ∀ x ∈ l.map tStr, (strB x).size ≤ 202 := fun x hx => by
      obtain ⟨t, ht, rfl⟩ := List.mem_map.1 hx
      exact (T_size (hok t ht)).2
    have hj := zm8 (sep := ⟨#[32]⟩) (l.map tStr) hsz (l.map tStr).length (Nat.le_refl _)
    have h1 : (⟨#[32]⟩ : ByteArray).size = 1 := rfl
    rw [List.take_length, h1, List.length_map] at hj
    omega
  have cL := ze16 hJ
  rw [hw] at cL
  dsimp only at cL
  generalize joinB (l.map tStr) ⟨#[32]⟩ = J at cJ cL
  have cS := zi10 (l := l) (by omega)
  have hk := zh11 (l := l)
  clear hw
  refine zf2 Tryd.func3 rfl rfl ?_
  repeat' (first | ((apply f_wo); refine zt22 cD ?_) | ((apply f_wo); first | ((apply f_gs); first | refine n_sk ?_) | ((apply f_mv); first | (refine zx1 ?_ ?_ <;> intro hG <;> (try cases hG)) | refine zw (v := .c _) ?_ | refine zw (v := .tu _) ?_ | refine za ?_) | ((apply f_as); first | refine zv (v := .c _) ?_ | refine zv (v := .tu _) ?_ | refine za ?_) | ((apply f_ld); first | refine zr2 ?_ | refine zm3 ?_ | refine n_ld ?_) | ((apply f_ca); first | refine zn1 (cb) ?_ | refine zm1 (cb) ?_ | refine zn1 (cJ) ?_ | refine zm1 (cJ) ?_ | refine zn1 (cL) ?_ | refine zm1 (cL) ?_) | ((apply f_bi); first | refine zd1 ?_ | refine zc1 ?_ | refine ze1 ?_ | refine za ?_) | ((apply f_ia); first | refine n_ix ?_ | refine zy2 ?_ | refine za ?_) | ((apply zb2); first | refine zk1 ?_ | refine zf4 ?_ | refine za ?_) | ((apply zy1); first | refine zm ?_ | refine za ?_) | ((apply zt1); first | refine zi ?_ | refine zs1 ?_ | refine za ?_) | ((apply f_no); first | refine zl3 ?_ | refine za ?_) | ((apply f_pk); first | refine zg1 (v := .c _) ?_ | refine zg1 (v := .tu _) ?_ | refine za ?_) | ((apply f_ex); first | refine zw1 (v := .c _) ?_ | refine zw1 (v := .tu _) ?_ | refine za ?_) | refine za ?_) | ((apply f_w); first | refine zx ?_ | refine zc ?_) | refine zb fun C => ?_ | refine zl ?_ | refine zd ?_ | refine zf ?_ | refine zg ?_ | refine zq rfl ?_ | refine zr rfl ?_)
  refine zy3 (fun k : Nat => ⟨tmsF [(3, .c (.sl 1100 (l.map T3.E).length)), (4, .c (.sl 1500 (l.map T3.E).length)), (5, .c (.v (.int .i64 (-1)))), (6, .c (.v (.int .i64 (k : Int))))], hpsF [(1100, 1100, ⟨31, 3, (l.map T3.E).length, false, owL (l.map T3.E)⟩), (1500, 1500, ⟨31, 3, (l.map T3.E).length, false, owL (l.map T3.E)⟩)], 0, [1100, 1500], 44⟩)
    (fun N k => k + N = l.length) l.length 0 (by omega) ?_ ?_
  · show Gh _ _
    (refine zt2 _ _ rfl rfl ?_ ?_ <;> (repeat' (first | exact TmOk.nil | exact RwOk.nil | refine TmOk.cons ?_ ?_ | refine RwOk.cons ?_ ?_ | rfl | exact zb1 rfl (by assumption) | exact zb1 rfl (zl2 _) | (refine rnV_id' rfl ?_; (first | rfl | (simp [cloV, cloL, clo, zn, zk, zo, zj, zh]; done))) | (refine zh3 ?_; first | rfl | omega | (rw [za2 (by omega) (by omega)]; omega)) | (refine zb1 rfl ?_; (first | rfl | (simp [cloV, cloL, clo, zn, zk, zo, zj, zh]; done))) | exact zu3 rfl rfl | (refine zi3 (by rfl) (by rfl) ?_ ?_ <;> (first | rfl | (simp [cloV, cloL, clo, zn, zk, zo, zj, zh]; done))) | (refine rw_rn' rfl rfl ?_; simp; done))))
  rintro N k hN
  try dsimp only
  repeat' (first | ((apply f_wo); first | ((apply f_gs); first | refine n_sk ?_) | ((apply f_mv); first | (refine zx1 ?_ ?_ <;> intro hG <;> (try cases hG)) | refine zw (v := .c _) ?_ | refine zw (v := .tu _) ?_ | refine za ?_) | ((apply f_as); first | refine zv (v := .c _) ?_ | refine zv (v := .tu _) ?_ | refine za ?_) | ((apply f_ld); first | refine zr2 ?_ | refine zm3 ?_ | refine n_ld ?_) | ((apply f_bi); first | refine zd1 ?_ | refine zc1 ?_ | refine ze1 ?_ | refine za ?_) | ((apply f_ia); first | refine n_ix ?_ | refine zy2 ?_ | refine za ?_) | ((apply zb2); first | refine zk1 ?_ | refine zf4 ?_ | refine za ?_) | ((apply zy1); first | refine zm ?_ | refine za ?_) | ((apply zt1); first | refine zi ?_ | refine zs1 ?_ | refine za ?_) | ((apply f_no); first | refine zl3 ?_ | refine za ?_) | ((apply f_pk); first | refine zg1 (v := .c _) ?_ | refine zg1 (v := .tu _) ?_ | refine za ?_) | ((apply f_ex); first | refine zw1 (v := .c _) ?_ | refine zw1 (v := .tu _) ?_ | refine za ?_) | refine za ?_) | ((apply f_w); first | refine zx ?_ | refine zc ?_) | refine zb fun C => ?_ | refine zl ?_ | refine zd ?_ | refine zf ?_ | refine zg ?_)
  refine zu (by rfl) (fun h1 => ?_) fun h1 => ?_
  · have hk' : k < l.length := by simpa using h1
    obtain ⟨t, hx⟩ : ∃ x, l[k]? = some x := ⟨_, List.getElem?_eq_getElem hk'⟩
    have hxm := List.mem_of_getElem? hx
    have htk := hok t hxm
    have hts := (zi7 htk).1
    have hT := (T_size htk).1
    have hsub := zj16 hx
    have c3 := zs5 (s := t.2.2) (by omega) (k := t.1) (n := t.2.1)
    have c4 := zm6 (s := t.2.2) (by omega) t.1 t.2.1
    rw [htk] at c4
    obtain ⟨t1, t2, t3⟩ := t
    dsimp only at hsub c3 c4
    have hT : 1 ≤ (tkT t1 t2 t3).size := hT
    generalize tkT t1 t2 t3 = T at c3 hT
    repeat' (first | ((apply f_wo); first | ((apply f_gs); first | refine n_sk ?_) | ((apply f_mv); first | (refine zx1 ?_ ?_ <;> intro hG <;> (try cases hG)) | refine zw (v := .c _) ?_ | refine zw (v := .tu _) ?_ | refine za ?_) | ((apply f_as); first | refine zv (v := .c _) ?_ | refine zv (v := .tu _) ?_ | refine za ?_) | ((apply f_ld); first | refine zr2 ?_ | refine zm3 ?_ | refine n_ld ?_) | ((apply f_ca); first | refine zn1 (c4) ?_ | refine zm1 (c4) ?_ | refine zn1 (c3) ?_ | refine zm1 (c3) ?_) | ((apply f_bi); first | refine zd1 ?_ | refine zc1 ?_ | refine ze1 ?_ | refine za ?_) | ((apply f_ia); first | refine n_ix ?_ | refine zy2 ?_ | refine za ?_) | ((apply zb2); first | refine zk1 ?_ | refine zf4 ?_ | refine za ?_) | ((apply zy1); first | refine zm ?_ | refine za ?_) | ((apply zt1); first | refine zi ?_ | refine zs1 ?_ | refine za ?_) | ((apply f_no); first | refine zl3 ?_ | refine za ?_) | ((apply f_pk); first | refine zg1 (v := .c _) ?_ | refine zg1 (v := .tu _) ?_ | refine za ?_) | ((apply f_ex); first | refine zw1 (v := .c _) ?_ | refine zw1 (v := .tu _) ?_ | refine za ?_) | refine za ?_) | ((apply f_w); first | refine zx ?_ | refine zc ?_) | refine zb fun C => ?_ | refine zl ?_ | refine zd ?_ | refine zf ?_ | refine zg ?_ | (refine zu (by rfl) ?_ ?_ <;> intro hC <;> (try cases hC)))
    all_goals first
      | (exfalso; rw [zf7, decide_eq_true_iff] at hC; omega)
      | (refine ⟨N - 1, k + 1, by omega, by omega, ?_⟩; show Gh _ _; (refine zt2 _ _ rfl rfl ?_ ?_ <;> (repeat' (first | exact TmOk.nil | exact RwOk.nil | refine TmOk.cons ?_ ?_ | refine RwOk.cons ?_ ?_ | rfl | exact zb1 rfl (by assumption) | exact zb1 rfl (zl2 _) | (refine rnV_id' rfl ?_; (first | rfl | (simp [cloV, cloL, clo, zn, zk, zo, zj, zh]; done))) | (refine zh3 ?_; first | rfl | omega | (rw [za2 (by omega) (by omega)]; omega)) | (refine zb1 rfl ?_; (first | rfl | (simp [cloV, cloL, clo, zn, zk, zo, zj, zh]; done))) | exact zu3 rfl rfl | (refine zi3 (by rfl) (by rfl) ?_ ?_ <;> (first | rfl | (simp [cloV, cloL, clo, zn, zk, zo, zj, zh]; done))) | (refine rw_rn' rfl rfl ?_; simp; done)))))
  · repeat' (first | ((apply f_wo); first | ((apply f_gs); first | refine n_sk ?_) | ((apply f_mv); first | (refine zx1 ?_ ?_ <;> intro hG <;> (try cases hG)) | refine zw (v := .c _) ?_ | refine zw (v := .tu _) ?_ | refine za ?_) | ((apply f_as); first | refine zv (v := .c _) ?_ | refine zv (v := .tu _) ?_ | refine za ?_) | ((apply f_ld); first | refine zr2 ?_ | refine zm3 ?_ | refine n_ld ?_) | ((apply f_ca); first | refine zn1 (cS) ?_ | refine zm1 (cS) ?_) | ((apply f_bi); first | refine zd1 ?_ | refine zc1 ?_ | refine ze1 ?_ | refine za ?_) | ((apply f_ia); first | refine n_ix ?_ | refine zy2 ?_ | refine za ?_) | ((apply zb2); first | refine zk1 ?_ | refine zf4 ?_ | refine za ?_) | ((apply zy1); first | refine zm ?_ | refine za ?_) | ((apply zt1); first | refine zi ?_ | refine zs1 ?_ | refine za ?_) | ((apply f_no); first | refine zl3 ?_ | refine za ?_) | ((apply f_pk); first | refine zg1 (v := .c _) ?_ | refine zg1 (v := .tu _) ?_ | refine za ?_) | ((apply f_ex); first | refine zw1 (v := .c _) ?_ | refine zw1 (v := .tu _) ?_ | refine za ?_) | refine za ?_) | ((apply f_w); first | refine zx ?_ | refine zc ?_) | refine zb fun C => ?_ | refine zl ?_ | refine zd ?_ | refine zf ?_ | refine zg ?_ | refine zq rfl ?_ | refine zr rfl ?_)
    refine zy ?_; refine ret0 rfl zc2 ⟨?_, rfl⟩; rfl
end Go.Proofs.YtnlgmojciplnoaaDoor
namespace Go.Proofs.YtnlgmojciplnoaaDoor
open Go.RowKit
end Go.Proofs.YtnlgmojciplnoaaDoor
namespace Go.Proofs.YtnlgmojciplnoaaDoor
open Go.RowKit
theorem zr6 {w : World} {St : Nat → Prop} {φ : Nat → Lc} {K : Nat → Prop} : ∀ bs : List UInt8, CRL w St φ K (acL (bE8 bs)) (bs.map fun b => .int .u8 b.toNat) []
  | [] => CRL.nil
  | b :: r => by
    show CRL w St φ K (.v (.int .u8 (b.toNat : Int)) :: acL (bE8 r)) (.int .u8 b.toNat :: r.map fun b => .int .u8 b.toNat) ([] ++ [])
    exact CRL.cons (by simp only [CR]; exact ⟨trivial, rfl, trivial⟩) (zr6 r)
theorem zw22 {w : World} {A : Option Addr} {n c : Nat} {bs : List UInt8} (h : Rd w 1 encB (.slice A n c) bs) : VR w (fun b => b < w.heap.size) φ0 K0 (.c (.ro bs.length 1 (acL (bE8 bs)))) (.slice A bs.length c) := by
  obtain ⟨A', c', he, h1, ⟨h2, h3⟩, h4⟩ := h
  injection he with e1 e2 e3
  subst e1 e2 e3
  simp only [VR, CR]
  refine ⟨trivial, A, c, rfl, ⟨h1, h2, h3⟩, by rw [show (acL (bE8 bs)).length = bs.length from by have := (zr6 (w := w) (St := fun _ => True) (φ := φ0) (K := K0) bs).len; simp at this; omega]; omega, fun hn => ?_⟩
  obtain ⟨b, o, rfl, -, hlt, hc⟩ := h4 hn
  refine ⟨b, o, _, rfl, hlt, hlt, fun i x hx => ?_, zr6 bs⟩
  rw [List.getElem?_map] at hx
  have hi : i < bs.length := by
    rcases Nat.lt_or_ge i bs.length with h | h
    · exact h
    · rw [List.getElem?_eq_none h] at hx; cases hx
  rw [List.getElem?_eq_getElem hi] at hx
  have := hc i hi 0 x (by simpa [encB] using hx)
  simpa using this
theorem zk16 {f : FuncId} {w : World} {A : Option Addr} {c : Nat} {bs : List UInt8} (h : Ctr Tryd.prog f [.c (.ro bs.length 1 (acL (bE8 bs)))] [] (.c (.v (.bool true))) []) (hs : Rd w 1 encB (.slice A bs.length c) bs) (gw : Gl w := by (first | assumption | exact gl_any _ | exact Gl.below_ gl0 (by exact (by repeat (first | (with_reducible refine Below.setCell ?_ (by first | omega | (· simp) | (· (simp; omega))) _) | (with_reducible refine Below.alloc ?_ (by first | omega | (· simp) | (· (simp; omega))) _) | (with_reducible refine Below.drew ?_) | (with_reducible refine zg13 ?_ _) | (with_reducible exact Below.refl _ _) | (with_reducible assumption) | (with_reducible refine Below.trans ?_ (Below.mono (by assumption) (by first | omega | (· simp) | (· (simp; omega))))) | (with_reducible refine Below.trans ?_ (Kp.below (by assumption) (by first | omega | (· simp) | (· (simp; omega))) (by first | omega | (· simp) | (· (simp; omega)))))))))) :
    Calls Tryd.prog f #[.slice A bs.length c] w fun e w' => e = .returned (.bool true) ∧ Below w.heap.size w w' :=
  zp19 h (us := [.slice A bs.length c]) (VRL_cons (zw22 hs) VRL_nil) gw
end Go.Proofs.YtnlgmojciplnoaaDoor
