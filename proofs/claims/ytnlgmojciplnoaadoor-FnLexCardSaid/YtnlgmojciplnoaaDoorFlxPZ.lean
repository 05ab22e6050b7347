/- Tokens joined by the program; rows of tokens compared by the laws. -/
import Derived.Test.YtnlgmojciplnoaaDoorFlxPY
namespace Go.Proofs.YtnlgmojciplnoaaDoor
open Go.RowKit
set_option maxRecDepth 100000
theorem T_size {t : T3} (h : tokOk t.1 t.2.1 t.2.2 = true) : 1 ≤ t.T.size ∧ t.T.size ≤ 202 := by
  obtain ⟨k, n, s⟩ := t
  have hz := zi7 h
  dsimp only at h hz
  show 1 ≤ (tkT k n s).size ∧ (tkT k n s).size ≤ 202
  unfold tkT
  rw [if_pos h]
  split
  · have h1 := zr12 hz.2.1
    have h2 : (numT n).size ≤ 10 := by
      have h3 := zm12 9 n.toNat (Nat.lt_of_le_of_lt (show n.toNat ≤ 2147483647 by omega) (by decide))
      rw [← zi8 hz.2.1] at h3
      exact h3
    omega
  · split
    · rw [ByteArray.size_append', ByteArray.size_append']
      have : (⟨#[39]⟩ : ByteArray).size = 1 := rfl
      omega
    · split
      · rw [ByteArray.size_append', ByteArray.size_append']
        have : (⟨#[47]⟩ : ByteArray).size = 1 := rfl
        omega
      · rename_i k1 k3 k4
        refine ⟨?_, by omega⟩
        unfold tokOk at h
        rw [if_neg k1, if_neg k3, if_neg k4] at h
        split at h
        · simp only [nameW, Bool.and_eq_true, decide_eq_true_iff] at h; omega
        · split at h
          · simp only [Bool.and_eq_true, decide_eq_true_iff] at h
            have := h.1
            simp only [markB, Bool.or_eq_true, Bool.and_eq_true, decide_eq_true_iff] at this
            omega
          · cases h
theorem zn10 {l : List T3} : ∀ e ∈ l.map T3.E, e.enc.length = 3 := fun e he => by obtain ⟨t, -, rfl⟩ := List.mem_map.1 he; rfl
theorem zx7 {l : List T3} (hl : l.length ≤ 2000) (hok : ∀ t ∈ l, tokOk t.1 t.2.1 t.2.2 = true) : Ctr Tryd.prog 9 [.c (.ro (l.map T3.E).length 3 (acL (l.map T3.E)))] [] (.c (.v (.string (joinB (l.map tStr) ⟨#[32]⟩)))) [] := by
  have hk := zn10 (l := l)
  have hsz : ∀ x ∈ l.map tStr, (strB x).size ≤ 202 := fun x hx => by
    obtain ⟨t, ht, rfl⟩ := List.mem_map.1 hx
    exact (T_size (hok t ht)).2
  have hj := zs9 (sep := ⟨#[32]⟩) (l.map tStr) hsz (l.map tStr).length (Nat.le_refl _)
  have h1 : (⟨#[32]⟩ : ByteArray).size = 1 := rfl
  rw [List.take_length, h1] at hj
  have hll : (l.map tStr).length = l.length := List.length_map ..
  have cj := join_c (l := l.map tStr) (fun e he => by obtain ⟨t, -, rfl⟩ := List.mem_map.1 he; exact ⟨_, rfl⟩) ⟨#[32]⟩ (by omega) (by omega)
  refine za2 Tryd.func9 rfl rfl ?_
  repeat' (first | ((apply f_wo); first | ((apply f_mv); first | refine zv (v := .c _) ?_ | refine za ?_) | ((apply f_as); first | refine zt (v := .c _) ?_ | refine za ?_) | ((apply f_ld); first | refine zq2 ?_ | refine zo3 ?_ | refine n_ld ?_) | ((apply f_bi); first | refine zc1 ?_ | refine zb1 ?_ | refine zd1 ?_ | refine zd3 ?_ | refine zd3 (hnu := zl _) ?_ | refine zh2 ?_ | refine zh2 (hnu := zl _) ?_ | refine za ?_) | ((apply f_st); first | refine n_st ?_ | refine zr2 ?_) | ((apply f_ia); first | refine n_ix ?_ | refine zl3 ?_ | refine za ?_) | ((apply zm1); first | refine zh ?_ | refine za ?_) | ((apply zj1); first | refine zg ?_ | refine zi1 ?_ | refine za ?_) | refine n_al ?_ | refine n_bs ?_ | refine za ?_) | ((apply f_w); first | refine zx ?_ | refine zd ?_) | refine zb fun C => ?_ | refine zj ?_ | refine zc ?_ | refine ze ?_ | refine zf ?_)
  refine zb3 (fun k : Nat => ⟨tmsF [(3, .c (.sl 9 k)), (6, .c (.ro (l.map T3.E).length 3 (acL (l.map T3.E)))), (7, .c (.v (.int .i64 (l.map T3.E).length))), (8, .c (.v (.int .i64 k)))], hpsF [(9, 9, ⟨9, 1, k, false, owL ((l.take k).map tStr)⟩)], 0, [9], 20⟩)
    (fun N k => k + N = l.length) l.length 0 (by omega) ?_ ?_
  · refine (ze11 9 (t := 3) 9 1 rfl rfl).trans ?_
    (refine ze2 _ _ rfl rfl ?_ ?_ <;> (repeat' (first | exact TmOk.nil | exact RwOk.nil | refine TmOk.cons ?_ ?_ | refine RwOk.cons ?_ ?_ | rfl | (refine rnV_id' rfl ?_; (first | rfl | (simp [cloV, cloL, clo, zn, zm, zo, zk, zi]; done))) | (refine zk2 ?_; first | rfl | omega | (rw [zp1 (by omega) (by omega)]; omega)) | (refine ze1 rfl ?_; (first | rfl | (simp [cloV, cloL, clo, zn, zm, zo, zk, zi]; done))) | exact zg3 rfl rfl | (refine zl2 (by rfl) (by rfl) ?_ ?_ <;> (first | rfl | (simp [cloV, cloL, clo, zn, zm, zo, zk, zi]; done))) | (refine rw_rn' rfl rfl ?_; simp; done))))
  rintro N k hN
  try dsimp only
  repeat' (first | ((apply f_wo); first | ((apply f_mv); first | refine zv (v := .c _) ?_ | refine za ?_) | ((apply f_as); first | refine zt (v := .c _) ?_ | refine za ?_) | ((apply f_ld); first | refine zq2 ?_ | refine zo3 ?_ | refine n_ld ?_) | ((apply f_bi); first | refine zc1 ?_ | refine zb1 ?_ | refine zd1 ?_ | refine zd3 ?_ | refine zd3 (hnu := zl _) ?_ | refine zh2 ?_ | refine zh2 (hnu := zl _) ?_ | refine za ?_) | ((apply f_st); first | refine n_st ?_ | refine zr2 ?_) | ((apply f_ia); first | refine n_ix ?_ | refine zl3 ?_ | refine za ?_) | ((apply zm1); first | refine zh ?_ | refine za ?_) | ((apply zj1); first | refine zg ?_ | refine zi1 ?_ | refine za ?_) | refine n_al ?_ | refine n_bs ?_ | refine za ?_) | ((apply f_w); first | refine zx ?_ | refine zd ?_) | refine zb fun C => ?_ | refine zj ?_ | refine zc ?_ | refine ze ?_ | refine zf ?_)
  refine zr (by rfl) (fun hk1 => ?_) fun hk1 => ?_
  · have hk' : k < l.length := by simpa using hk1
    obtain ⟨t, hx⟩ : ∃ x, l[k]? = some x := ⟨_, List.getElem?_eq_getElem hk'⟩
    have hxm := List.mem_of_getElem? hx
    have hxe : (l.map T3.E)[k]? = some t.E := by rw [List.getElem?_map, hx]; rfl
    have htk := hok t hxm
    have hts := (zi7 htk).1
    have c3 := zg6 (s := t.2.2) (by omega) (k := t.1) (n := t.2.1)
    have e : (l.take (k + 1)).map tStr = (l.take k).map tStr ++ [tStr t] := by rw [List.take_add_one, hx, Option.toList_some, List.map_append]; rfl
    obtain ⟨t1, t2, t3⟩ := t
    have hxe : (l.map T3.E)[k]? = some (E.agg [.int .i64 t1, .int .i64 t2, .str t3]) := hxe
    repeat' (first | ((apply f_wo); first | ((apply f_mv); first | refine zv (v := .c _) ?_ | refine za ?_) | ((apply f_as); first | refine zt (v := .c _) ?_ | refine za ?_) | ((apply f_ld); first | refine zq2 ?_ | refine zo3 ?_ | refine n_ld ?_) | ((apply f_ca); first | refine zk1 (c3) ?_ | refine zh1 (c3) ?_) | ((apply f_bi); first | refine zc1 ?_ | refine zb1 ?_ | refine zd1 ?_ | refine zd3 ?_ | refine zd3 (hnu := zl _) ?_ | refine zh2 ?_ | refine zh2 (hnu := zl _) ?_ | refine za ?_) | ((apply f_st); first | refine n_st ?_ | refine zr2 ?_) | ((apply f_ia); first | refine n_ix ?_ | refine zl3 ?_ | refine za ?_) | ((apply zm1); first | refine zh ?_ | refine za ?_) | ((apply zj1); first | refine zg ?_ | refine zi1 ?_ | refine za ?_) | refine n_al ?_ | refine n_bs ?_ | refine za ?_) | ((apply f_w); first | refine zx ?_ | refine zd ?_) | refine zb fun C => ?_ | refine zj ?_ | refine zc ?_ | refine ze ?_ | refine zf ?_ | refine zp rfl ?_ | refine zq rfl ?_)
    refine ⟨N - 1, k + 1, by omega, by omega, ?_⟩
    rw [e]
    (refine zb6 (fun j => if j = 9 then 16 else j) _ _ rfl rfl ?_ ?_ <;> (repeat' (first | exact TmOk.nil | exact RwOk.nil | refine TmOk.cons ?_ ?_ | refine RwOk.cons ?_ ?_ | rfl | (refine rnV_id' rfl ?_; (first | rfl | (simp [cloV, cloL, clo, zn, zm, zo, zk, zi]; done))) | (refine zk2 ?_; first | rfl | omega | (rw [zp1 (by omega) (by omega)]; omega)) | (refine ze1 rfl ?_; (first | rfl | (simp [cloV, cloL, clo, zn, zm, zo, zk, zi]; done))) | exact zg3 rfl rfl | (refine zl2 (by rfl) (by rfl) ?_ ?_ <;> (first | rfl | (simp [cloV, cloL, clo, zn, zm, zo, zk, zi]; done))) | (refine rw_rn' rfl rfl ?_; simp; done))))
    exact zg12 (r := ⟨9, 1, k + 1, false, owL ((l.take k).map tStr) ++ [.v (.string (tkT t1 t2 t3))]⟩) rfl (by rw [zk7]; rfl) (by first | rfl | (simp [cloV, cloL, clo, zn, zm, zo, zk, zi]; done))
  · have hk' : ¬ k < l.length := by simpa using hk1
    obtain rfl : k = l.length := by omega
    rw [List.take_length]
    rw [hll] at cj
    repeat' (first | ((apply f_wo); first | ((apply f_mv); first | refine zv (v := .c _) ?_ | refine za ?_) | ((apply f_as); first | refine zt (v := .c _) ?_ | refine za ?_) | ((apply f_ld); first | refine zq2 ?_ | refine zo3 ?_ | refine n_ld ?_) | ((apply f_ca); first | refine zk1 (cj) ?_ | refine zh1 (cj) ?_) | ((apply f_bi); first | refine zc1 ?_ | refine zb1 ?_ | refine zd1 ?_ | refine zd3 ?_ | refine zd3 (hnu := zl _) ?_ | refine zh2 ?_ | refine zh2 (hnu := zl _) ?_ | refine za ?_) | ((apply f_st); first | refine n_st ?_ | refine zr2 ?_) | ((apply f_ia); first | refine n_ix ?_ | refine zl3 ?_ | refine za ?_) | ((apply zm1); first | refine zh ?_ | refine za ?_) | ((apply zj1); first | refine zg ?_ | refine zi1 ?_ | refine za ?_) | refine n_al ?_ | refine n_bs ?_ | refine za ?_) | ((apply f_w); first | refine zx ?_ | refine zd ?_) | refine zb fun C => ?_ | refine zj ?_ | refine zc ?_ | refine ze ?_ | refine zf ?_ | (refine zr (by rfl) ?_ ?_ <;> intro hC <;> (try cases hC)))
    all_goals
      refine zw ?_; refine ret0 rfl zu1 ⟨?_, rfl⟩; rfl
section
variable {ops : Array Oper} {Q : Exit → Act → World → Prop} {C : Ctx} {H : List (Nat × Oper × Inf)} {i : Nat} {r : List Nat} {dr : Bool}
variable {tm : Nat → AV} {hp : Nat → Option Row} {gn L : Nat} {us : List Nat}
theorem zo19 {t : Nat} {gd : Option (Nat × Bool)} {ps : String} {af : Array Edge} {ty ty' : TypeId} {xo yo : Operand} {a0 a1 : Int} {a2 : ByteArray} (h : Walk Tryd.prog ops Q C dr (keepH dr (i, (⟨some t, .binOp .neq 31 xo yo ty', ty, ps, af, gd⟩ : Oper), ⟨fpO (AS.ev ⟨tm, hp, gn, us, L⟩) (⟨some t, .binOp .neq 31 xo yo ty', ty, ps, af, gd⟩ : Oper), [], [], .c (.v (.bool false))⟩) H) r ⟨upd tm t (.c (.v (.bool false))), hp, gn, us, L⟩)
    (ht : Nat.blt t L = true := by exact rfl) (hg : gw ops tm (⟨some t, .binOp .neq 31 xo yo ty', ty, ps, af, gd⟩ : Oper) = some true := by exact rfl) (hx : AS.ev ⟨tm, hp, gn, us, L⟩ xo = .ag [.v (.int .i64 a0), .v (.int .i64 a1), .v (.string a2)] := by exact rfl) (hy : AS.ev ⟨tm, hp, gn, us, L⟩ yo = .ag [.v (.int .i64 a0), .v (.int .i64 a1), .v (.string a2)] := by exact rfl)
    (hc : chk dr ops i (⟨some t, .binOp .neq 31 xo yo ty', ty, ps, af, gd⟩ : Oper) ⟨fpO (AS.ev ⟨tm, hp, gn, us, L⟩) (⟨some t, .binOp .neq 31 xo yo ty', ty, ps, af, gd⟩ : Oper), [], [], .c (.v (.bool false))⟩ H = true := by first | (with_reducible exact zf2) | kernel_rfl) : WalkO Tryd.prog ops Q C dr H i (⟨some t, .binOp .neq 31 xo yo ty', ty, ps, af, gd⟩ : Oper) r ⟨tm, hp, gn, us, L⟩ :=
  ⟨fun hop => w_eqS (xs := [.int .i64 a0, .int .i64 a1, .string a2]) (ys := [.int .i64 a0, .int .i64 a1, .string a2]) (b := true) (q := false) hop rfl rfl ht hg (by kernel_rfl) (by rw [hx]; rfl) (by rw [hy]; rfl) (fun w => by rw [zl11]; simp) (.inr ⟨rfl, rfl⟩) hc h⟩
end
theorem zs11 {l : List T3} (hl : l.length ≤ 1048576) : Ctr Tryd.prog 12 [.c (.ro (l.map T3.E).length 3 (acL (l.map T3.E))), .c (.ro (l.map T3.E).length 3 (acL (l.map T3.E)))] [] (.c (.v (.bool true))) [] := by
  have hk := zn10 (l := l)
  have hll : (l.map T3.E).length = l.length := List.length_map ..
  refine za2 Tryd.func12 rfl rfl ?_
  repeat' (first | ((apply f_wo); first | ((apply f_mv); first | refine zv (v := .c _) ?_ | refine za ?_) | ((apply f_as); first | refine zt (v := .c _) ?_ | refine za ?_) | ((apply f_ld); first | refine zq2 ?_ | refine zo3 ?_ | refine n_ld ?_) | ((apply f_bi); first | refine zc1 ?_ | refine zb1 ?_ | refine zd1 ?_ | refine za ?_) | ((apply f_ia); first | refine n_ix ?_ | refine zl3 ?_ | refine za ?_) | ((apply zx2); first | refine zi4 ?_ | refine za ?_) | ((apply zm1); first | refine zh ?_ | refine za ?_) | ((apply zj1); first | refine zg ?_ | refine zi1 ?_ | refine za ?_) | refine za ?_) | ((apply f_w); first | refine zx ?_ | refine zd ?_) | ((apply d_wo); first | ((apply d_mv); refine zy ?_) | ((apply d_as); refine zy ?_) | ((apply d_ld); first | refine zb5 ?_ | refine zz3 ?_ | refine za4 ?_ | refine zc5 ?_ | refine zy ?_ | refine o_ld ?_) | ((apply d_bi); first | refine zj3 ?_ | refine zi3 ?_ | refine zk3 ?_ | refine zu2 ?_ | refine zu2 (hnu := zl _) ?_ | refine zc2 ?_ | refine zc2 (hnu := zl _) ?_ | refine zy ?_) | ((apply d_ia); first | refine o_ix ?_ | refine zn6 ?_ | refine zy ?_) | ((apply d_bb); first | refine zr1 ?_ | refine zs1 ?_ | refine zt1 ?_ | refine zu3 ?_ | refine zy ?_) | refine zy ?_) | ((apply d_w); first | refine zx ?_ | refine zd ?_) | refine zb fun C => ?_ | refine za1 (by kernel_rfl) (by kernel_rfl) fun C => ?_ | refine zj ?_ | refine zc ?_ | refine ze ?_ | refine zf ?_)
  refine zr (by rfl) (fun hC => by exfalso; simp at hC) fun hC => ?_
  repeat' (first | ((apply f_wo); first | ((apply f_mv); first | refine zv (v := .c _) ?_ | refine za ?_) | ((apply f_as); first | refine zt (v := .c _) ?_ | refine za ?_) | ((apply f_ld); first | refine zq2 ?_ | refine zo3 ?_ | refine n_ld ?_) | ((apply f_bi); first | refine zc1 ?_ | refine zb1 ?_ | refine zd1 ?_ | refine za ?_) | ((apply f_ia); first | refine n_ix ?_ | refine zl3 ?_ | refine za ?_) | ((apply zx2); first | refine zi4 ?_ | refine za ?_) | ((apply zm1); first | refine zh ?_ | refine za ?_) | ((apply zj1); first | refine zg ?_ | refine zi1 ?_ | refine za ?_) | refine za ?_) | ((apply f_w); first | refine zx ?_ | refine zd ?_) | ((apply d_wo); first | ((apply d_mv); refine zy ?_) | ((apply d_as); refine zy ?_) | ((apply d_ld); first | refine zb5 ?_ | refine zz3 ?_ | refine za4 ?_ | refine zc5 ?_ | refine zy ?_ | refine o_ld ?_) | ((apply d_bi); first | refine zj3 ?_ | refine zi3 ?_ | refine zk3 ?_ | refine zu2 ?_ | refine zu2 (hnu := zl _) ?_ | refine zc2 ?_ | refine zc2 (hnu := zl _) ?_ | refine zy ?_) | ((apply d_ia); first | refine o_ix ?_ | refine zn6 ?_ | refine zy ?_) | ((apply d_bb); first | refine zr1 ?_ | refine zs1 ?_ | refine zt1 ?_ | refine zu3 ?_ | refine zy ?_) | refine zy ?_) | ((apply d_w); first | refine zx ?_ | refine zd ?_) | refine zb fun C => ?_ | refine za1 (by kernel_rfl) (by kernel_rfl) fun C => ?_ | refine zj ?_ | refine zc ?_ | refine ze ?_ | refine zf ?_)
  refine zb3 (fun k : Nat => ⟨tmsF [(0, .c (.ro (l.map T3.E).length 3 (acL (l.map T3.E)))), (1, .c (.ro (l.map T3.E).length 3 (acL (l.map T3.E)))), (5, .c (.v (.int .i64 (k : Int))))], hpsF [], 0, [], 26⟩)
    (fun N k => k + N = l.length) l.length 0 (by omega) ?_ ?_
  · (refine ze2 _ _ rfl rfl ?_ ?_ <;> (repeat' (first | exact TmOk.nil | exact RwOk.nil | refine TmOk.cons ?_ ?_ | refine RwOk.cons ?_ ?_ | rfl | (refine rnV_id' rfl ?_; (first | rfl | (simp [cloV, cloL, clo, zn, zm, zo, zk, zi]; done))) | (refine zk2 ?_; first | rfl | omega | (rw [zp1 (by omega) (by omega)]; omega)) | (refine ze1 rfl ?_; (first | rfl | (simp [cloV, cloL, clo, zn, zm, zo, zk, zi]; done))) | exact zg3 rfl rfl | (refine zl2 (by rfl) (by rfl) ?_ ?_ <;> (first | rfl | (simp [cloV, cloL, clo, zn, zm, zo, zk, zi]; done))) | (refine rw_rn' rfl rfl ?_; simp; done))))
  rintro N k hN
  try dsimp only
  repeat' (first | ((apply f_wo); first | ((apply f_mv); first | refine zv (v := .c _) ?_ | refine za ?_) | ((apply f_as); first | refine zt (v := .c _) ?_ | refine za ?_) | ((apply f_ld); first | refine zq2 ?_ | refine zo3 ?_ | refine n_ld ?_) | ((apply f_bi); first | refine zc1 ?_ | refine zb1 ?_ | refine zd1 ?_ | refine za ?_) | ((apply f_ia); first | refine n_ix ?_ | refine zl3 ?_ | refine za ?_) | ((apply zx2); first | refine zi4 ?_ | refine za ?_) | ((apply zm1); first | refine zh ?_ | refine za ?_) | ((apply zj1); first | refine zg ?_ | refine zi1 ?_ | refine za ?_) | refine za ?_) | ((apply f_w); first | refine zx ?_ | refine zd ?_) | ((apply d_wo); first | ((apply d_mv); refine zy ?_) | ((apply d_as); refine zy ?_) | ((apply d_ld); first | refine zb5 ?_ | refine zz3 ?_ | refine za4 ?_ | refine zc5 ?_ | refine zy ?_ | refine o_ld ?_) | ((apply d_bi); first | refine zj3 ?_ | refine zi3 ?_ | refine zk3 ?_ | refine zu2 ?_ | refine zu2 (hnu := zl _) ?_ | refine zc2 ?_ | refine zc2 (hnu := zl _) ?_ | refine zy ?_) | ((apply d_ia); first | refine o_ix ?_ | refine zn6 ?_ | refine zy ?_) | ((apply d_bb); first | refine zr1 ?_ | refine zs1 ?_ | refine zt1 ?_ | refine zu3 ?_ | refine zy ?_) | refine zy ?_) | ((apply d_w); first | refine zx ?_ | refine zd ?_) | refine zb fun C => ?_ | refine za1 (by kernel_rfl) (by kernel_rfl) fun C => ?_ | refine zj ?_ | refine zc ?_ | refine ze ?_ | refine zf ?_)
  refine zr (by rfl) (fun h1 => ?_) fun h1 => ?_
  · have hk' : k < l.length := by simpa using h1
    obtain ⟨t, hx⟩ : ∃ x, l[k]? = some x := ⟨_, List.getElem?_eq_getElem hk'⟩
    obtain ⟨t1, t2, t3⟩ := t
    have hxe : (l.map T3.E)[k]? = some (E.agg [.int .i64 t1, .int .i64 t2, .str t3]) := by rw [List.getElem?_map, hx]; rfl
    repeat' (first | ((apply d_wo); refine zo19 ?_) | ((apply f_wo); first | ((apply f_mv); first | refine zv (v := .c _) ?_ | refine za ?_) | ((apply f_as); first | refine zt (v := .c _) ?_ | refine za ?_) | ((apply f_ld); first | refine zq2 ?_ | refine zo3 ?_ | refine n_ld ?_) | ((apply f_bi); first | refine zc1 ?_ | refine zb1 ?_ | refine zd1 ?_ | refine za ?_) | ((apply f_ia); first | refine n_ix ?_ | refine zl3 ?_ | refine za ?_) | ((apply zx2); first | refine zi4 ?_ | refine za ?_) | ((apply zm1); first | refine zh ?_ | refine za ?_) | ((apply zj1); first | refine zg ?_ | refine zi1 ?_ | refine za ?_) | refine za ?_) | ((apply f_w); first | refine zx ?_ | refine zd ?_) | ((apply d_wo); first | ((apply d_mv); refine zy ?_) | ((apply d_as); refine zy ?_) | ((apply d_ld); first | refine zb5 ?_ | refine zz3 ?_ | refine za4 ?_ | refine zc5 ?_ | refine zy ?_ | refine o_ld ?_) | ((apply d_bi); first | refine zj3 ?_ | refine zi3 ?_ | refine zk3 ?_ | refine zu2 ?_ | refine zu2 (hnu := zl _) ?_ | refine zc2 ?_ | refine zc2 (hnu := zl _) ?_ | refine zy ?_) | ((apply d_ia); first | refine o_ix ?_ | refine zn6 ?_ | refine zy ?_) | ((apply d_bb); first | refine zr1 ?_ | refine zs1 ?_ | refine zt1 ?_ | refine zu3 ?_ | refine zy ?_) | refine zy ?_) | ((apply d_w); first | refine zx ?_ | refine zd ?_) | refine zb fun C => ?_ | refine za1 (by kernel_rfl) (by kernel_rfl) fun C => ?_ | refine zj ?_ | refine zc ?_ | refine ze ?_ | refine zf ?_ | refine zp rfl ?_ | refine zq rfl ?_)
    refine ⟨N - 1, k + 1, by omega, by omega, ?_⟩
    (refine ze2 _ _ rfl rfl ?_ ?_ <;> (repeat' (first | exact TmOk.nil | exact RwOk.nil | refine TmOk.cons ?_ ?_ | refine RwOk.cons ?_ ?_ | rfl | (refine rnV_id' rfl ?_; (first | rfl | (simp [cloV, cloL, clo, zn, zm, zo, zk, zi]; done))) | (refine zk2 ?_; first | rfl | omega | (rw [zp1 (by omega) (by omega)]; omega)) | (refine ze1 rfl ?_; (first | rfl | (simp [cloV, cloL, clo, zn, zm, zo, zk, zi]; done))) | exact zg3 rfl rfl | (refine zl2 (by rfl) (by rfl) ?_ ?_ <;> (first | rfl | (simp [cloV, cloL, clo, zn, zm, zo, zk, zi]; done))) | (refine rw_rn' rfl rfl ?_; simp; done))))
  · repeat' (first | ((apply f_wo); first | ((apply f_mv); first | refine zv (v := .c _) ?_ | refine za ?_) | ((apply f_as); first | refine zt (v := .c _) ?_ | refine za ?_) | ((apply f_ld); first | refine zq2 ?_ | refine zo3 ?_ | refine n_ld ?_) | ((apply f_bi); first | refine zc1 ?_ | refine zb1 ?_ | refine zd1 ?_ | refine za ?_) | ((apply f_ia); first | refine n_ix ?_ | refine zl3 ?_ | refine za ?_) | ((apply zx2); first | refine zi4 ?_ | refine za ?_) | ((apply zm1); first | refine zh ?_ | refine za ?_) | ((apply zj1); first | refine zg ?_ | refine zi1 ?_ | refine za ?_) | refine za ?_) | ((apply f_w); first | refine zx ?_ | refine zd ?_) | ((apply d_wo); first | ((apply d_mv); refine zy ?_) | ((apply d_as); refine zy ?_) | ((apply d_ld); first | refine zb5 ?_ | refine zz3 ?_ | refine za4 ?_ | refine zc5 ?_ | refine zy ?_ | refine o_ld ?_) | ((apply d_bi); first | refine zj3 ?_ | refine zi3 ?_ | refine zk3 ?_ | refine zu2 ?_ | refine zu2 (hnu := zl _) ?_ | refine zc2 ?_ | refine zc2 (hnu := zl _) ?_ | refine zy ?_) | ((apply d_ia); first | refine o_ix ?_ | refine zn6 ?_ | refine zy ?_) | ((apply d_bb); first | refine zr1 ?_ | refine zs1 ?_ | refine zt1 ?_ | refine zu3 ?_ | refine zy ?_) | refine zy ?_) | ((apply d_w); first | refine zx ?_ | refine zd ?_) | refine zb fun C => ?_ | refine za1 (by kernel_rfl) (by kernel_rfl) fun C => ?_ | refine zj ?_ | refine zc ?_ | refine ze ?_ | refine zf ?_ | refine zp rfl ?_ | refine zq rfl ?_)
    refine zw ?_; refine ret0 rfl zu1 ⟨?_, rfl⟩; rfl
end Go.Proofs.YtnlgmojciplnoaaDoor
-- MVP
namespace Go.Proofs.YtnlgmojciplnoaaDoor
open Go.RowKit
set_option maxRecDepth 100000
theorem big_c {n : Nat} {l : List AC} (hn : n ≤ 9223372036854775807) : Ctr Tryd.prog 6 [.c (.ro n 1 l)] [] (.c (.v (.bool (decide (1048576 < (n : Int)))))) [] := by
  refine za2 Tryd.func6 rfl rfl ?_
  repeat' (first | ((apply f_wo); first | ((apply f_mv); first | refine zv (v := .c _) ?_ | refine za ?_) | ((apply f_as); first | refine zt (v := .c _) ?_ | refine za ?_) | ((apply f_bi); first | refine zc1 ?_ | refine zb1 ?_ | refine zd1 ?_ | refine za ?_) | ((apply zh3); first | refine zo1 ?_ | refine za ?_) | refine za ?_) | ((apply f_w); first | refine zx ?_ | refine zd ?_) | refine zb fun C => ?_ | refine zj ?_ | refine zc ?_ | refine ze ?_ | refine zf ?_ | (refine zr (by rfl) ?_ ?_ <;> intro hC <;> (try cases hC)))
  refine zw ?_; refine ret0 rfl zu1 ⟨?_, rfl⟩
  rfl
end Go.Proofs.YtnlgmojciplnoaaDoor
namespace Go.Proofs.YtnlgmojciplnoaaDoor
open Go.RowKit
set_option maxRecDepth 100000
theorem zx17 : ∀ {l : List T3} {k : Nat} {t : T3}, l[k]? = some t → subL (owL (l.map T3.E)) (k * 3) (Tryd.prog.cellsOf 31) = [.v (.int .i64 t.1), .v (.int .i64 t.2.1), .v (.string t.2.2)]
  | [], k, t, h => by simp at h
  | x :: l, 0, t, h => by
    have : x = t := by simpa using h
    subst this
    rfl
  | x :: l, k + 1, t, h => by
    have h' : l[k]? = some t := by simpa using h
    rw [← zx17 h', show (k + 1) * 3 = k * 3 + 3 by omega]
    show subL ([.v (.int .i64 x.1), .v (.int .i64 x.2.1), .v (.string x.2.2)] ++ owL (l.map T3.E)) _ _ = _
    unfold subL
    congr 1
set_option maxHeartbeats 4000000 in
theorem zh6 {s : ByteArray} (hs : s.size ≤ 1048576) {k n : Int} : Ctr Tryd.prog 19 [.ag [.v (.int .i64 k), .v (.int .i64 n), .v (.string s)]] [] (.c (.v (.string (tkT k n s)))) [] := by
  have c0 := zd7 hs k n
  unfold tkT
  refine za2 Tryd.func19 rfl rfl ?_
  cases h : tokOk k n s with
  | false =>
    rw [h] at c0
    rw [if_neg (by simp)]
    repeat' (first | ((apply f_wo); first | ((apply f_as); first | refine zt (v := .c _) ?_ | refine za ?_) | ((apply f_fa); first | refine n_fa ?_ | refine zx3 ?_) | ((apply f_ld); first | refine zp3 ?_ | refine zs2 ?_ | refine zq2 ?_ | refine zo3 ?_ | refine n_ld ?_) | ((apply f_ca); first | refine zk1 (c0) ?_ | refine zh1 (c0) ?_) | ((apply zn1); first | refine zu ?_ | refine za ?_) | ((apply zj1); first | refine zg ?_ | refine zi1 ?_ | refine za ?_) | ((apply f_no); first | refine zw2 ?_ | refine za ?_) | refine n_bo ?_ | refine za ?_) | ((apply f_w); first | refine zx ?_ | refine zd ?_) | refine zb fun C => ?_ | refine zj ?_ | refine zc ?_ | refine ze ?_ | refine zf ?_ | refine zp rfl ?_ | refine zq rfl ?_)
    refine zw ?_; refine ret0 rfl zu1 ⟨?_, rfl⟩; rfl
  | true =>
    rw [h] at c0
    rw [if_pos rfl]
    by_cases k1 : k = 1
    · subst k1
      have hn : 0 ≤ n ∧ n ≤ 2147483647 ∧ s.size = 0 := by simpa [tokOk] using h
      have c1 := zy21 n.natAbs n (Nat.le_refl _) (by omega) (by omega)
      repeat' (first | ((apply f_wo); first | ((apply f_as); first | refine zt (v := .c _) ?_ | refine za ?_) | ((apply f_fa); first | refine n_fa ?_ | refine zx3 ?_) | ((apply f_ld); first | refine zp3 ?_ | refine zs2 ?_ | refine zq2 ?_ | refine zo3 ?_ | refine n_ld ?_) | ((apply f_ca); first | refine zk1 (c0) ?_ | refine zh1 (c0) ?_ | refine zk1 (c1) ?_ | refine zh1 (c1) ?_) | ((apply zn1); first | refine zu ?_ | refine za ?_) | ((apply zj1); first | refine zg ?_ | refine zi1 ?_ | refine za ?_) | ((apply f_no); first | refine zw2 ?_ | refine za ?_) | refine n_bo ?_ | refine za ?_) | ((apply f_w); first | refine zx ?_ | refine zd ?_) | refine zb fun C => ?_ | refine zj ?_ | refine zc ?_ | refine ze ?_ | refine zf ?_ | refine zp rfl ?_ | refine zq rfl ?_)
      refine zw ?_; refine ret0 rfl zu1 ⟨?_, rfl⟩; rfl
    · rw [if_neg k1]
      by_cases k3 : k = 3
      · subst k3
        repeat' (first | ((apply f_wo); first | ((apply f_as); first | refine zt (v := .c _) ?_ | refine za ?_) | ((apply f_fa); first | refine n_fa ?_ | refine zx3 ?_) | ((apply f_ld); first | refine zp3 ?_ | refine zs2 ?_ | refine zq2 ?_ | refine zo3 ?_ | refine n_ld ?_) | ((apply f_ca); first | refine zk1 (c0) ?_ | refine zh1 (c0) ?_) | ((apply zn1); first | refine zu ?_ | refine za ?_) | ((apply zj1); first | refine zg ?_ | refine zi1 ?_ | refine za ?_) | ((apply f_no); first | refine zw2 ?_ | refine za ?_) | refine n_bo ?_ | refine za ?_) | ((apply f_w); first | refine zx ?_ | refine zd ?_) | refine zb fun C => ?_ | refine zj ?_ | refine zc ?_ | refine ze ?_ | refine zf ?_ | refine zp rfl ?_ | refine zq rfl ?_)
        refine zw ?_; refine ret0 rfl zu1 ⟨?_, rfl⟩; rfl
      · rw [if_neg k3]
        by_cases k4 : k = 4
        · subst k4
          repeat' (first | ((apply f_wo); first | ((apply f_as); first | refine zt (v := .c _) ?_ | refine za ?_) | ((apply f_fa); first | refine n_fa ?_ | refine zx3 ?_) | ((apply f_ld); first | refine zp3 ?_ | refine zs2 ?_ | refine zq2 ?_ | refine zo3 ?_ | refine n_ld ?_) | ((apply f_ca); first | refine zk1 (c0) ?_ | refine zh1 (c0) ?_) | ((apply zn1); first | refine zu ?_ | refine za ?_) | ((apply zj1); first | refine zg ?_ | refine zi1 ?_ | refine za ?_) | ((apply f_no); first | refine zw2 ?_ | refine za ?_) | refine n_bo ?_ | refine za ?_) | ((apply f_w); first | refine zx ?_ | refine zd ?_) | refine zb fun C => ?_ | refine zj ?_ | refine zc ?_ | refine ze ?_ | refine zf ?_ | refine zp rfl ?_ | refine zq rfl ?_)
          refine zw ?_; refine ret0 rfl zu1 ⟨?_, rfl⟩; rfl
        · rw [if_neg k4]
          repeat' (first | ((apply f_wo); first | ((apply f_as); first | refine zt (v := .c _) ?_ | refine za ?_) | ((apply f_fa); first | refine n_fa ?_ | refine zx3 ?_) | ((apply f_ld); first | refine zp3 ?_ | refine zs2 ?_ | refine zq2 ?_ | refine zo3 ?_ | refine n_ld ?_) | ((apply f_ca); first | refine zk1 (c0) ?_ | refine zh1 (c0) ?_) | ((apply zn1); first | refine zu ?_ | refine za ?_) | ((apply zj1); first | refine zg ?_ | refine zi1 ?_ | refine za ?_) | ((apply f_no); first | refine zw2 ?_ | refine za ?_) | refine n_bo ?_ | refine za ?_) | ((apply f_w); first | refine zx ?_ | refine zd ?_) | refine zb fun C => ?_ | refine zj ?_ | refine zc ?_ | refine ze ?_ | refine zf ?_ | (refine zr (by rfl) ?_ ?_ <;> intro hC <;> (try cases hC)))
          all_goals first
            | (exfalso; simp only [beq_iff_eq] at hC; first | exact k1 hC | exact k3 hC | exact k4 hC)
            | (refine zw ?_; refine ret0 rfl zu1 ⟨?_, rfl⟩; rfl)
theorem zo10 {l : List T3} (hok : ∀ t ∈ l, tokOk t.1 t.2.1 t.2.2 = true) {k : Nat} (hk : k ≤ l.length) : (joinB ((l.map tStr).take k) ⟨#[32]⟩).size ≤ k * 203 := by
  have hsz : ∀ x ∈ l.map tStr, (strB x).size ≤ 202 := fun x hx => by
    obtain ⟨t, ht, rfl⟩ := List.mem_map.1 hx
    exact (T_size (hok t ht)).2
  exact zs9 (sep := ⟨#[32]⟩) (l.map tStr) hsz k (by rw [List.length_map]; exact hk)
theorem zy7 {l : List T3} (hl : l.length ≤ 2000) (hok : ∀ t ∈ l, tokOk t.1 t.2.1 t.2.2 = true) : Ctr Tryd.prog 36 [.c (.ro (l.map T3.E).length 3 (acL (l.map T3.E)))] [] (.c (.v (.string (joinB (l.map tStr) ⟨#[32]⟩)))) [] := by
  have hk := zn10 (l := l)
  have hll : (l.map tStr).length = l.length := List.length_map ..
  refine za2 Tryd.func36 rfl rfl ?_
  repeat' (first | ((apply f_wo); first | ((apply f_mv); first | refine zv (v := .c _) ?_ | refine za ?_) | ((apply f_as); first | refine zt (v := .c _) ?_ | refine za ?_) | ((apply f_ld); first | refine zq2 ?_ | refine zo3 ?_ | refine n_ld ?_) | ((apply f_bi); first | refine zc1 ?_ | refine zb1 ?_ | refine zd1 ?_ | refine za ?_) | ((apply f_ia); first | refine n_ix ?_ | refine zl3 ?_ | refine za ?_) | ((apply zm1); first | refine zh ?_ | refine za ?_) | ((apply zh3); first | refine zo1 ?_ | refine za ?_) | ((apply zj1); first | refine zg ?_ | refine zi1 ?_ | refine za ?_) | refine za ?_) | ((apply f_w); first | refine zx ?_ | refine zd ?_) | refine zb fun C => ?_ | refine zj ?_ | refine zc ?_ | refine ze ?_ | refine zf ?_)
  refine zb3 (fun k : Nat => ⟨tmsF [(0, .c (.ro (l.map T3.E).length 3 (acL (l.map T3.E)))), (3, .c (.v (.string (joinB ((l.map tStr).take k) ⟨#[32]⟩)))), (4, .c (.v (.int .i64 k)))], hpsF [], 0, [], 23⟩)
    (fun N k => k + N = l.length) l.length 0 (by omega) ?_ ?_
  · (refine ze2 _ _ rfl rfl ?_ ?_ <;> (repeat' (first | exact TmOk.nil | exact RwOk.nil | refine TmOk.cons ?_ ?_ | refine RwOk.cons ?_ ?_ | rfl | (refine rnV_id' rfl ?_; (first | rfl | (simp [cloV, cloL, clo, zn, zm, zo, zk, zi]; done))) | (refine zk2 ?_; first | rfl | omega | (rw [zp1 (by omega) (by omega)]; omega)) | (refine ze1 rfl ?_; (first | rfl | (simp [cloV, cloL, clo, zn, zm, zo, zk, zi]; done))) | exact zg3 rfl rfl | (refine zl2 (by rfl) (by rfl) ?_ ?_ <;> (first | rfl | (simp [cloV, cloL, clo, zn, zm, zo, zk, zi]; done))) | (refine rw_rn' rfl rfl ?_; simp; done))))
  rintro N k hN
  try dsimp only
  repeat' (first | ((apply f_wo); first | ((apply f_mv); first | refine zv (v := .c _) ?_ | refine za ?_) | ((apply f_as); first | refine zt (v := .c _) ?_ | refine za ?_) | ((apply f_ld); first | refine zq2 ?_ | refine zo3 ?_ | refine n_ld ?_) | ((apply f_bi); first | refine zc1 ?_ | refine zb1 ?_ | refine zd1 ?_ | refine za ?_) | ((apply f_ia); first | refine n_ix ?_ | refine zl3 ?_ | refine za ?_) | ((apply zm1); first | refine zh ?_ | refine za ?_) | ((apply zh3); first | refine zo1 ?_ | refine za ?_) | ((apply zj1); first | refine zg ?_ | refine zi1 ?_ | refine za ?_) | refine za ?_) | ((apply f_w); first | refine zx ?_ | refine zd ?_) | refine zb fun C => ?_ | refine zj ?_ | refine zc ?_ | refine ze ?_ | refine zf ?_)
  refine zr (by rfl) (fun h1 => ?_) fun h1 => ?_
  · have hk' : k < l.length := by simpa using h1
    obtain ⟨t, hx⟩ : ∃ x, l[k]? = some x := ⟨_, List.getElem?_eq_getElem hk'⟩
    have htk := hok t (List.mem_of_getElem? hx)
    have hts := (zi7 htk).1
    have hT := (T_size htk).2
    have hxs : (l.map tStr)[k]? = some (tStr t) := by rw [List.getElem?_map, hx]; rfl
    have e := zr9 hxs ⟨#[32]⟩
    have hq := zo10 hok (k := k) (by omega)
    have hone : (ByteArray.mk #[32]).size = 1 := rfl
    have c3 := zh6 (s := t.2.2) (by omega) (k := t.1) (n := t.2.1)
    have hst : strB (tStr t) = tkT t.1 t.2.1 t.2.2 := rfl
    rw [hst] at e
    obtain ⟨t1, t2, t3⟩ := t
    dsimp only at c3 e
    have hT : (tkT t1 t2 t3).size ≤ 202 := hT
    have hxe : (l.map T3.E)[k]? = some (E.agg [.int .i64 t1, .int .i64 t2, .str t3]) := by rw [List.getElem?_map, hx]; rfl
    generalize tkT t1 t2 t3 = T at c3 e hT
    by_cases hk0 : k = 0
    · rw [if_pos hk0] at e
      subst hk0
      repeat' (first | ((apply f_wo); first | ((apply f_mv); first | refine zv (v := .c _) ?_ | refine za ?_) | ((apply f_as); first | refine zt (v := .c _) ?_ | refine za ?_) | ((apply f_ld); first | refine zq2 ?_ | refine zo3 ?_ | refine n_ld ?_) | ((apply f_ca); first | refine zk1 (c3) ?_ | refine zh1 (c3) ?_) | ((apply f_bi); first | refine zc1 ?_ | refine zb1 ?_ | refine zd1 ?_ | refine za ?_) | ((apply f_ia); first | refine n_ix ?_ | refine zl3 ?_ | refine za ?_) | ((apply zm1); first | refine zh ?_ | refine za ?_) | ((apply zh3); first | refine zo1 ?_ | refine za ?_) | ((apply zj1); first | refine zg ?_ | refine zi1 ?_ | refine za ?_) | refine za ?_) | ((apply f_w); first | refine zx ?_ | refine zd ?_) | refine zb fun C => ?_ | refine zj ?_ | refine zc ?_ | refine ze ?_ | refine zf ?_ | (refine zr (by rfl) ?_ ?_ <;> intro hC <;> (try cases hC)))
      all_goals first
        | (exfalso; simp at hC; done)
        | (refine ⟨N - 1, 1, by omega, by omega, ?_⟩
           rw [show (1 : Nat) = 0 + 1 from rfl, e]
           (refine ze2 _ _ rfl rfl ?_ ?_ <;> (repeat' (first | exact TmOk.nil | exact RwOk.nil | refine TmOk.cons ?_ ?_ | refine RwOk.cons ?_ ?_ | rfl | (refine rnV_id' rfl ?_; (first | rfl | (simp [cloV, cloL, clo, zn, zm, zo, zk, zi]; done))) | (refine zk2 ?_; first | rfl | omega | (rw [zp1 (by omega) (by omega)]; omega)) | (refine ze1 rfl ?_; (first | rfl | (simp [cloV, cloL, clo, zn, zm, zo, zk, zi]; done))) | exact zg3 rfl rfl | (refine zl2 (by rfl) (by rfl) ?_ ?_ <;> (first | rfl | (simp [cloV, cloL, clo, zn, zm, zo, zk, zi]; done))) | (refine rw_rn' rfl rfl ?_; simp; done)))))
    · rw [if_neg hk0] at e
      generalize joinB ((l.map tStr).take k) ⟨#[32]⟩ = J at e hq ⊢
      repeat' (first | ((apply f_wo); first | ((apply f_mv); first | refine zv (v := .c _) ?_ | refine za ?_) | ((apply f_as); first | refine zt (v := .c _) ?_ | refine za ?_) | ((apply f_ld); first | refine zq2 ?_ | refine zo3 ?_ | refine n_ld ?_) | ((apply f_ca); first | refine zk1 (c3) ?_ | refine zh1 (c3) ?_) | ((apply f_bi); first | refine zc1 ?_ | refine zb1 ?_ | refine zd1 ?_ | refine za ?_) | ((apply f_ia); first | refine n_ix ?_ | refine zl3 ?_ | refine za ?_) | ((apply zm1); first | refine zh ?_ | refine za ?_) | ((apply zh3); first | refine zo1 ?_ | refine za ?_) | ((apply zj1); first | refine zg ?_ | refine zi1 ?_ | refine za ?_) | refine za ?_) | ((apply f_w); first | refine zx ?_ | refine zd ?_) | refine zb fun C => ?_ | refine zj ?_ | refine zc ?_ | refine ze ?_ | refine zf ?_ | (refine zr (by rfl) ?_ ?_ <;> intro hC <;> (try cases hC)))
      all_goals first
        | (exfalso; simp only [decide_eq_false_iff_not] at hC; omega)
        | (refine ⟨N - 1, k + 1, by omega, by omega, ?_⟩
           rw [e]
           (refine ze2 _ _ rfl rfl ?_ ?_ <;> (repeat' (first | exact TmOk.nil | exact RwOk.nil | refine TmOk.cons ?_ ?_ | refine RwOk.cons ?_ ?_ | rfl | (refine rnV_id' rfl ?_; (first | rfl | (simp [cloV, cloL, clo, zn, zm, zo, zk, zi]; done))) | (refine zk2 ?_; first | rfl | omega | (rw [zp1 (by omega) (by omega)]; omega)) | (refine ze1 rfl ?_; (first | rfl | (simp [cloV, cloL, clo, zn, zm, zo, zk, zi]; done))) | exact zg3 rfl rfl | (refine zl2 (by rfl) (by rfl) ?_ ?_ <;> (first | rfl | (simp [cloV, cloL, clo, zn, zm, zo, zk, zi]; done))) | (refine rw_rn' rfl rfl ?_; simp; done)))))
  · have hk' : ¬ k < l.length := by simpa using h1
    repeat' (first | ((apply f_wo); first | ((apply f_mv); first | refine zv (v := .c _) ?_ | refine za ?_) | ((apply f_as); first | refine zt (v := .c _) ?_ | refine za ?_) | ((apply f_ld); first | refine zq2 ?_ | refine zo3 ?_ | refine n_ld ?_) | ((apply f_bi); first | refine zc1 ?_ | refine zb1 ?_ | refine zd1 ?_ | refine za ?_) | ((apply f_ia); first | refine n_ix ?_ | refine zl3 ?_ | refine za ?_) | ((apply zm1); first | refine zh ?_ | refine za ?_) | ((apply zh3); first | refine zo1 ?_ | refine za ?_) | ((apply zj1); first | refine zg ?_ | refine zi1 ?_ | refine za ?_) | refine za ?_) | ((apply f_w); first | refine zx ?_ | refine zd ?_) | refine zb fun C => ?_ | refine zj ?_ | refine zc ?_ | refine ze ?_ | refine zf ?_ | refine zp rfl ?_ | refine zq rfl ?_)
    refine zw ?_
    refine ret0 (x := .c (.v (.string (joinB ((l.map tStr).take k) ⟨#[32]⟩)))) rfl zu1 ⟨?_, rfl⟩
    rw [List.take_of_length_le (by omega)]
end Go.Proofs.YtnlgmojciplnoaaDoor
