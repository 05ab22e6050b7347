/- The law FnEntries, walked. -/
import Derived.Test.YtghljnfbbaklnaaEntriesU
-- MVP
namespace Go.Proofs.Ytghljnfbbaklnaa
open Go.RowKit
set_option maxRecDepth 100000
def keyH (s : ByteArray) (e : E) : Bool := match e with | .str q => q.toList == s.toList | _ => false
def Strs (l : List E) : Prop := ∀ e ∈ l, ∃ q, e = .str q
theorem zw10 {l : List E} (h : Strs l) (hl : l.length ≤ 1048576) (s : ByteArray) : Ctr Try.prog 30 [.c (.ro l.length 1 (acL l)), .c (.v (.string s))] [] (.c (.v (.bool (l.any (keyH s))))) [] := by
  have hk : ∀ e ∈ l, e.enc.length = 1 := fun e he => by obtain ⟨q, rfl⟩ := h e he; rfl
  refine zt1 Try.func30 rfl rfl ?_
  repeat' (first | ((apply f_wo); first | ((apply f_mv); first | refine zm1 (v := .c _) ?_ | refine zb ?_) | ((apply f_as); first | refine zo1 (v := .c _) ?_ | refine zb ?_) | ((apply f_ld); first | refine zi4 ?_ | refine zw2 ?_ | refine n_ld ?_) | ((apply f_bi); first | refine zb3 ?_ | refine za3 ?_ | refine zc3 ?_ | refine zb ?_) | ((apply f_ia); first | refine n_ix ?_ | refine zp2 ?_ | refine zb ?_) | ((apply zl3); first | refine zf7 ?_ | refine zb ?_) | ((apply zd3); first | refine zx ?_ | refine zb ?_) | ((apply zj2); first | refine zr ?_ | refine zi2 ?_ | refine zb ?_) | refine zb ?_) | ((apply f_w); first | refine zy ?_ | refine zd ?_) | refine za fun C => ?_ | refine zi ?_ | refine ze ?_ | refine zg ?_ | refine zh ?_)
  refine zp3 (fun i : Nat => ⟨tmsF [(0, .c (.ro l.length 1 (acL l))), (1, .c (.v (.string s))), (5, .c (.v (.int .i64 (i : Int))))], hpsF [], 0, [], 18⟩)
    (fun N i => N + i = l.length ∧ (l.take i).any (keyH s) = false) l.length 0 ⟨by omega, by simp⟩ ?_ ?_
  · (refine zx2 _ _ rfl rfl ?_ ?_ <;> (repeat' (first | exact TmOk.nil | exact RwOk.nil | refine TmOk.cons ?_ ?_ | refine RwOk.cons ?_ ?_ | rfl | (refine rnV_id' rfl ?_; (first | rfl | (simp [cloV, cloL, clo, zo, zn, zp, zl, zk]; done))) | (refine zf3 ?_; first | rfl | omega | (rw [zx1 (by omega) (by omega)]; omega)) | (refine zb2 rfl ?_; (first | rfl | (simp [cloV, cloL, clo, zo, zn, zp, zl, zk]; done))) | exact zl4 rfl rfl | (refine ze4 (by rfl) (by rfl) ?_ ?_ <;> (first | rfl | (simp [cloV, cloL, clo, zo, zn, zp, zl, zk]; done))) | (refine rw_rn' rfl rfl ?_; simp; done))))
  rintro N i ⟨hN, hno⟩
  repeat' (first | ((apply f_wo); first | ((apply f_mv); first | refine zm1 (v := .c _) ?_ | refine zb ?_) | ((apply f_as); first | refine zo1 (v := .c _) ?_ | refine zb ?_) | ((apply f_ld); first | refine zi4 ?_ | refine zw2 ?_ | refine n_ld ?_) | ((apply f_bi); first | refine zb3 ?_ | refine za3 ?_ | refine zc3 ?_ | refine zb ?_) | ((apply f_ia); first | refine n_ix ?_ | refine zp2 ?_ | refine zb ?_) | ((apply zl3); first | refine zf7 ?_ | refine zb ?_) | ((apply zd3); first | refine zx ?_ | refine zb ?_) | ((apply zj2); first | refine zr ?_ | refine zi2 ?_ | refine zb ?_) | refine zb ?_) | ((apply f_w); first | refine zy ?_ | refine zd ?_) | refine za fun C => ?_ | refine zi ?_ | refine ze ?_ | refine zg ?_ | refine zh ?_)
  refine zu1 (by rfl) (fun h1 => ?_) fun h1 => ?_
  · have hi : i < l.length := by simpa using h1
    obtain ⟨x, hx⟩ : ∃ x, l[i]? = some x := ⟨_, List.getElem?_eq_getElem hi⟩
    obtain ⟨q, rfl⟩ := h x (List.mem_of_getElem? hx)
    have hat := zm18 (p := keyH s) hx
    rw [hno, Bool.false_or] at hat
    repeat' (first | ((apply f_wo); first | ((apply f_mv); first | refine zm1 (v := .c _) ?_ | refine zb ?_) | ((apply f_as); first | refine zo1 (v := .c _) ?_ | refine zb ?_) | ((apply f_ld); first | refine zi4 ?_ | refine zw2 ?_ | refine n_ld ?_) | ((apply f_bi); first | refine zb3 ?_ | refine za3 ?_ | refine zc3 ?_ | refine zb ?_) | ((apply f_ia); first | refine n_ix ?_ | refine zp2 ?_ | refine zb ?_) | ((apply zl3); first | refine zf7 ?_ | refine zb ?_) | ((apply zd3); first | refine zx ?_ | refine zb ?_) | ((apply zj2); first | refine zr ?_ | refine zi2 ?_ | refine zb ?_) | refine zb ?_) | ((apply f_w); first | refine zy ?_ | refine zd ?_) | refine za fun C => ?_ | refine zi ?_ | refine ze ?_ | refine zg ?_ | refine zh ?_)
    refine zu1 (by rfl) (fun hC => ?_) fun hC => ?_
    · repeat' (first | ((apply f_wo); first | ((apply f_mv); first | refine zm1 (v := .c _) ?_ | refine zb ?_) | ((apply f_as); first | refine zo1 (v := .c _) ?_ | refine zb ?_) | ((apply f_ld); first | refine zi4 ?_ | refine zw2 ?_ | refine n_ld ?_) | ((apply f_bi); first | refine zb3 ?_ | refine za3 ?_ | refine zc3 ?_ | refine zb ?_) | ((apply f_ia); first | refine n_ix ?_ | refine zp2 ?_ | refine zb ?_) | ((apply zl3); first | refine zf7 ?_ | refine zb ?_) | ((apply zd3); first | refine zx ?_ | refine zb ?_) | ((apply zj2); first | refine zr ?_ | refine zi2 ?_ | refine zb ?_) | refine zb ?_) | ((apply f_w); first | refine zy ?_ | refine zd ?_) | refine za fun C => ?_ | refine zi ?_ | refine ze ?_ | refine zg ?_ | refine zh ?_)
      refine zq ?_; refine ret0 rfl zj4 ⟨?_, rfl⟩
      have h2 : (l.take (i + 1)).any (keyH s) = true := hat.trans hC
      have h3 : l.any (keyH s) = true := by
        rw [List.any_eq_true] at h2 ⊢
        obtain ⟨y, hy, hp⟩ := h2
        exact ⟨y, List.mem_of_mem_take hy, hp⟩
      rw [h3]
    · repeat' (first | ((apply f_wo); first | ((apply f_mv); first | refine zm1 (v := .c _) ?_ | refine zb ?_) | ((apply f_as); first | refine zo1 (v := .c _) ?_ | refine zb ?_) | ((apply f_ld); first | refine zi4 ?_ | refine zw2 ?_ | refine n_ld ?_) | ((apply f_bi); first | refine zb3 ?_ | refine za3 ?_ | refine zc3 ?_ | refine zb ?_) | ((apply f_ia); first | refine n_ix ?_ | refine zp2 ?_ | refine zb ?_) | ((apply zl3); first | refine zf7 ?_ | refine zb ?_) | ((apply zd3); first | refine zx ?_ | refine zb ?_) | ((apply zj2); first | refine zr ?_ | refine zi2 ?_ | refine zb ?_) | refine zb ?_) | ((apply f_w); first | refine zy ?_ | refine zd ?_) | refine za fun C => ?_ | refine zi ?_ | refine ze ?_ | refine zg ?_ | refine zh ?_)
      refine ⟨N - 1, i + 1, by omega, ⟨by omega, hat.trans hC⟩, ?_⟩
      (refine zx2 _ _ rfl rfl ?_ ?_ <;> (repeat' (first | exact TmOk.nil | exact RwOk.nil | refine TmOk.cons ?_ ?_ | refine RwOk.cons ?_ ?_ | rfl | (refine rnV_id' rfl ?_; (first | rfl | (simp [cloV, cloL, clo, zo, zn, zp, zl, zk]; done))) | (refine zf3 ?_; first | rfl | omega | (rw [zx1 (by omega) (by omega)]; omega)) | (refine zb2 rfl ?_; (first | rfl | (simp [cloV, cloL, clo, zo, zn, zp, zl, zk]; done))) | exact zl4 rfl rfl | (refine ze4 (by rfl) (by rfl) ?_ ?_ <;> (first | rfl | (simp [cloV, cloL, clo, zo, zn, zp, zl, zk]; done))) | (refine rw_rn' rfl rfl ?_; simp; done))))
  · have hi : i = l.length := by have := of_decide_eq_false h1; omega
    subst hi
    rw [List.take_length] at hno
    repeat' (first | ((apply f_wo); first | ((apply f_mv); first | refine zm1 (v := .c _) ?_ | refine zb ?_) | ((apply f_as); first | refine zo1 (v := .c _) ?_ | refine zb ?_) | ((apply f_ld); first | refine zi4 ?_ | refine zw2 ?_ | refine n_ld ?_) | ((apply f_bi); first | refine zb3 ?_ | refine za3 ?_ | refine zc3 ?_ | refine zb ?_) | ((apply f_ia); first | refine n_ix ?_ | refine zp2 ?_ | refine zb ?_) | ((apply zl3); first | refine zf7 ?_ | refine zb ?_) | ((apply zd3); first | refine zx ?_ | refine zb ?_) | ((apply zj2); first | refine zr ?_ | refine zi2 ?_ | refine zb ?_) | refine zb ?_) | ((apply f_w); first | refine zy ?_ | refine zd ?_) | refine za fun C => ?_ | refine zi ?_ | refine ze ?_ | refine zg ?_ | refine zh ?_)
    refine zq ?_; refine ret0 rfl zj4 ⟨?_, rfl⟩
    rw [hno]
theorem zl7 {x x' : E} (he : owE x' = owE x) : ∀ {l : List E} {k : Nat}, l[k]? = some x → owL (l.set k x') = owL l
  | [], _, h => by simp at h
  | a :: r, 0, h => by
    simp only [List.getElem?_cons_zero, Option.some.injEq] at h
    subst h
    simp only [List.set_cons_zero, owL, he]
  | a :: r, k + 1, h => by
    have := zl7 he (l := r) (k := k) (by simpa using h)
    simp only [List.set_cons_succ, owL, this]
theorem zz21 {n : Nat} {vs ts : List E} (h : EOk n vs ts) {nm key : ByteArray} {v : E} (ho : putOk (envE vs ts) nm key = false) : owE (putE (envE vs ts) nm key v) = owE (envE vs ts) := by
  rcases zu3 (isNm nm) ts with h0 | ⟨k, h0, hlt⟩
  · rw [show putE (envE vs ts) nm key v = envE vs ts from (zi6 h0).1]
  · obtain ⟨x, hx⟩ : ∃ x, ts[k]? = some x := ⟨_, List.getElem?_eq_getElem hlt⟩
    obtain ⟨q, A, c, l, h1, h2, h3, rfl⟩ := h.2.2.2 x (List.mem_of_getElem? hx)
    obtain ⟨e1, e2⟩ := zj6 (k := 4) (T := 34) (x0A := none) (x0c := 0) (x1A := none) (x1c := 0) (k' := 2) (T' := 80) (l := vs) (s := key) (v := v) h0 hx
    have ho' : putOkL l key = false := e2.symm.trans ho
    have hl : putL l key v = l := by
      unfold putOkL at ho'
      unfold putL
      cases hk : l.findIdx? (isNm key) with
      | some i => rw [hk] at ho'; cases ho'
      | none =>
        rw [hk] at ho'
        have h20 : 20 ≤ l.length := by simpa using ho'
        simp only [if_pos h20]
    show owE (putE (.agg [.lst 4 34 none 0 vs, .lst 2 80 none 0 ts]) nm key v) = _
    rw [e1, hl]
    have := zl7 (x := tbD q A c l) (x' := .agg [.str q, .lst 4 82 none 0 l]) rfl hx
    simp only [envE, owE, owL, this, List.length_set]
theorem zh7 {vs ts : List E} {nm q : ByteArray} {A : Option Addr} {c k : Nat} {l : List E} (h : idxF (isNm nm) ts = (k : Int)) (hx : ts[k]? = some (tbD q A c l)) : keysL (envE vs ts) nm = l.map keyE := by simp [keysL, envE, tabsE, zp5 h, hx, tbD]
theorem zt20 {n : Nat} {vs ts : List E} (h : EOk n vs ts) {nm key : ByteArray} (hk : key.size ≤ 201) {a b : Int} {t : ByteArray} (hv : VOk a b t) (ho : putOk (envE vs ts) nm key = true) :
    ∃ (l : List E) (ts2 ts3 : List E), l.length ≤ n ∧ (∀ y ∈ l, NmOk y) ∧ putE (envE vs ts) nm key (.agg [.int .i64 a, .int .i64 b, .str t]) = envE vs ts2 ∧ dropE (envE vs ts2) nm key = envE vs ts3 ∧ EOk (n + 1) vs ts2 ∧ EOk (n + 1) vs ts3 ∧ putOkL l key = true ∧
      entsT ts nm = l ∧ entsT ts2 nm = putL l key (.agg [.int .i64 a, .int .i64 b, .str t]) ∧ entsT ts3 nm = (putL l key (.agg [.int .i64 a, .int .i64 b, .str t])).filter (notNm key) ∧
      keysL (envE vs ts) nm = l.map keyE ∧ keysL (envE vs ts2) nm = (putL l key (.agg [.int .i64 a, .int .i64 b, .str t])).map keyE ∧ keysL (envE vs ts3) nm = ((putL l key (.agg [.int .i64 a, .int .i64 b, .str t])).filter (notNm key)).map keyE := by
  rcases zu3 (isNm nm) ts with h0 | ⟨k, h0, hlt⟩
  · have := (zi6 (k := 4) (T := 34) (x0A := none) (x0c := 0) (x1A := none) (x1c := 0) (k' := 2) (T' := 80) (l := vs) (s := key) (v := .agg [.int .i64 a, .int .i64 b, .str t]) h0).2
    rw [show putOk (envE vs ts) nm key = false from this] at ho
    cases ho
  · obtain ⟨x, hx⟩ : ∃ x, ts[k]? = some x := ⟨_, List.getElem?_eq_getElem hlt⟩
    obtain ⟨q, A, c, l, h1, h2, h3, rfl⟩ := h.2.2.2 x (List.mem_of_getElem? hx)
    obtain ⟨e1, e2⟩ := zj6 (k := 4) (T := 34) (x0A := none) (x0c := 0) (x1A := none) (x1c := 0) (k' := 2) (T' := 80) (l := vs) (s := key) (v := .agg [.int .i64 a, .int .i64 b, .str t]) h0 hx
    have hok : putOkL l key = true := e2.symm.trans ho
    obtain ⟨g1, g2⟩ := zr16 h3 h2 hk hv
    obtain ⟨pl, hP⟩ : ∃ pl, putL l key (.agg [.int .i64 a, .int .i64 b, .str t]) = pl := ⟨_, rfl⟩
    rw [hP] at e1 g1 g2
    have fi : ∀ m : List E, idxF (isNm nm) (ts.set k (tbD q none 0 m)) = (k : Int) := fun m => by
      unfold idxF
      rw [zr6 (p := isNm nm) (x := tbD q none 0 m) (l := ts) (k := k) fun y hy => by rw [hx] at hy; injection hy with hy; subst hy; rfl, zp5 h0]
    have gx : ∀ m : List E, (ts.set k (tbD q none 0 m))[k]? = some (tbD q none 0 m) := fun m => List.getElem?_set_self hlt
    have ok : ∀ m : List E, (∀ y ∈ m, NmOk y) → m.length ≤ n + 1 → EOk (n + 1) vs (ts.set k (tbD q none 0 m)) := fun m hm1 hm2 => by
      refine ⟨h.1, by rw [List.length_set]; exact h.2.1, h.2.2.1, fun y hy => ?_⟩
      rcases List.mem_or_eq_of_mem_set hy with h4 | rfl
      · exact (h.2.2.2 y h4).mono (by omega)
      · exact ⟨q, none, 0, m, h1, hm2, hm1, rfl⟩
    refine ⟨l, ts.set k (tbD q none 0 pl), ts.set k (tbD q none 0 (pl.filter (notNm key))), h2, h3, e1, ?_, ok _ g1 g2, ok _ (fun y hy => g1 y (List.mem_filter.1 hy).1) (Nat.le_trans (List.length_filter_le _ _) g2), hok, zn6 h0 hx, by rw [hP]; exact zn6 (fi _) (gx _), by rw [hP]; exact zn6 (fi _) (gx _), ?_, ?_, ?_⟩
    · have := zb9 (k := 4) (T := 34) (x0A := none) (x0c := 0) (x1A := none) (x1c := 0) (k' := 2) (T' := 80) (l := vs) (s := key) (fi pl) (gx pl)
      refine this.trans ?_
      rw [List.set_set]
      rfl
    · exact zh7 h0 hx
    · rw [hP]; exact zh7 (fi _) (gx _)
    · rw [hP]; exact zh7 (fi _) (gx _)
theorem zp22 {l : List E} {s : ByteArray} (h : hasL l s = false) : vlL l s = zV := by
  unfold hasL at h
  unfold vlL
  cases hk : l.findIdx? (isNm s) with
  | none => rfl
  | some k => rw [hk] at h; cases h
theorem zm8 (l : List E) : Strs (l.map keyE) := fun e he => by obtain ⟨x, -, rfl⟩ := List.mem_map.1 he; exact ⟨_, rfl⟩
theorem zy12 {l : List E} {s : ByteArray} : (l.map keyE).any (keyH s) = hasL l s := by
  rw [zn16, List.any_map]
  rfl
theorem zn18 {l : List E} (hl : Nms l) {s : ByteArray} {v : E} : (putL l s v).map keyE = l.map keyE ∨ (putL l s v).map keyE = l.map keyE ++ [.str s] := by
  have e : ∀ m : List E, m.map keyE = (m.map nmE).map .str := fun m => by simp [keyE, Function.comp_def]
  rcases zo16 hl (s := s) (v := v) with h | h
  · exact .inl (by rw [e, e, h])
  · exact .inr (by rw [e, e, h]; simp)
set_option maxHeartbeats 8000000 in
theorem zw16 {bs : List UInt8} (hsz : bs.length ≤ 9223372036854775807) : Ctr Try.prog 5 [.c (.ro bs.length 1 (acL (bE8 bs)))] [] (.c (.v (.bool true))) [] := by
  have cb := zo22 (l := acL (bE8 bs)) hsz
  by_cases hbig : 1048576 < (bs.length : Int)
  · rw [decide_eq_true hbig] at cb
    refine zt1 Try.func5 rfl rfl ?_
    repeat' (first | ((apply f_wo); first | ((apply f_gs); first | refine n_sk ?_) | ((apply f_mv); first | (refine zi5 ?_ ?_ <;> intro hG <;> (try cases hG)) | refine zm1 (v := .c _) ?_ | refine zm1 (v := .tu _) ?_ | refine zb ?_) | ((apply f_as); first | refine zo1 (v := .c _) ?_ | refine zo1 (v := .tu _) ?_ | refine zb ?_) | ((apply f_ld); first | refine zi4 ?_ | refine zw2 ?_ | refine zs1 ?_ | refine zm2 ?_ | refine n_ld ?_) | ((apply f_ca); first | refine zc4 (cb) ?_ | refine zy3 (cb) ?_) | ((apply f_bi); first | refine zb3 ?_ | refine za3 ?_ | refine zc3 ?_ | refine zb ?_) | ((apply f_st); first | refine n_st ?_ | refine zo2 ?_) | ((apply f_ia); first | refine n_ix ?_ | refine zp2 ?_ | refine zb ?_) | ((apply zl3); first | refine ze6 ?_ | refine zb ?_) | ((apply zj5); first | refine zs3 ?_ | refine zf6 ?_ | refine zb ?_) | ((apply zd3); first | refine zx ?_ | refine zb ?_) | ((apply zp6); first | refine zk3 ?_ | refine zb ?_) | ((apply zj2); first | refine zr ?_ | refine zi2 ?_ | refine zb ?_) | ((apply f_no); first | refine zn10 ?_ | refine zb ?_) | ((apply f_pk); first | refine zq4 (v := .c _) ?_ | refine zq4 (v := .tu _) ?_ | refine zb ?_) | ((apply f_ex); first | refine zo6 (v := .c _) ?_ | refine zo6 (v := .tu _) ?_ | refine zb ?_) | refine n_al ?_ | refine zb ?_) | ((apply f_w); first | refine zy ?_ | refine zd ?_) | ((apply d_wo); first | ((apply d_gs); first | refine o_sk ?_ | refine zh5 ?_) | ((apply d_bo); (refine o_gm ?_ ?_ <;> intro hG <;> (try cases hG))) | ((apply d_mv); first | refine zu (.c (.v _)) ?_ | refine zu (.c _) ?_ | refine zu (.ag _) ?_ | refine zu (.tu _) ?_ | refine zm ?_) | ((apply d_as); first | refine zv (.c (.v _)) ?_ | refine zv (.c _) ?_ | refine zv (.ag _) ?_ | refine zv (.tu _) ?_ | refine zm ?_) | ((apply d_ld); first | refine zn3 ?_ | refine zc2 ?_ | refine zd2 ?_ | refine zo3 ?_ | refine zm ?_ | refine o_ld ?_) | ((apply d_ca); first | refine zq5 (cb) ?_) | ((apply d_bi); first | refine zf2 ?_ | refine ze2 ?_ | refine zg2 ?_ | refine zv1 ?_ | refine zv1 (hnu := zj _) ?_ | refine ze1 ?_ | refine ze1 (hnu := zj _) ?_ | refine zm ?_) | ((apply d_st); first | refine o_st ?_ | refine zo4 ?_) | ((apply d_ia); first | refine o_ix ?_ | refine zj3 ?_ | refine zm ?_) | ((apply d_bb); first | refine zb1 ?_ | refine zc1 ?_ | refine zd1 ?_ | refine zm3 ?_ | refine zm ?_) | refine o_al ?_ | refine zy1 (.c (.v _)) ?_ | refine zy1 (.c _) ?_ | refine zm ?_) | ((apply d_w); first | refine zy ?_ | refine zd ?_) | refine za fun C => ?_ | refine zf (by kernel_rfl) (by kernel_rfl) fun C => ?_ | refine zi ?_ | refine ze ?_ | refine zg ?_ | refine zh ?_ | refine zp1 rfl ?_ | refine zq1 rfl ?_)
    refine zq ?_; refine ret0 rfl zj4 ⟨?_, rfl⟩
    rfl
  rw [decide_eq_false hbig] at cb
  obtain ⟨vs, ts, nm, key, a, b, s, hE, hv, hkey, cD⟩ := DrawPutEntry_c (bs := bs) (by omega)
  have cx := zr8 hE.ty hv.ty nm key (hE.sz (by omega))
  have cy := zq8 hE.ty hv.ty nm key (hE.sz (by omega))
  have l1 := hE.1
  have l2 := hE.2.1
  cases ho : putOk (envE vs ts) nm key with
  | false =>
    rw [ho, zz21 hE ho] at cx cy
    have cE := zu10 hE (by omega)
    refine zt1 Try.func5 rfl rfl ?_
    repeat' (first | ((apply f_wo); first | ((apply f_gs); first | refine n_sk ?_) | ((apply f_mv); first | (refine zi5 ?_ ?_ <;> intro hG <;> (try cases hG)) | refine zm1 (v := .c _) ?_ | refine zm1 (v := .tu _) ?_ | refine zb ?_) | ((apply f_as); first | refine zo1 (v := .c _) ?_ | refine zo1 (v := .tu _) ?_ | refine zb ?_) | ((apply f_ld); first | refine zi4 ?_ | refine zw2 ?_ | refine zs1 ?_ | refine zm2 ?_ | refine n_ld ?_) | ((apply f_ca); first | refine zc4 (cb) ?_ | refine zy3 (cb) ?_ | refine zc4 (cD) ?_ | refine zy3 (cD) ?_ | refine zc4 (cx) ?_ | refine zy3 (cx) ?_ | refine zc4 (cy) ?_ | refine zy3 (cy) ?_ | refine zc4 (cE) ?_ | refine zy3 (cE) ?_) | ((apply f_bi); first | refine zb3 ?_ | refine za3 ?_ | refine zc3 ?_ | refine zb ?_) | ((apply f_st); first | refine n_st ?_ | refine zo2 ?_) | ((apply f_ia); first | refine n_ix ?_ | refine zp2 ?_ | refine zb ?_) | ((apply zl3); first | refine ze6 ?_ | refine zb ?_) | ((apply zj5); first | refine zs3 ?_ | refine zf6 ?_ | refine zb ?_) | ((apply zd3); first | refine zx ?_ | refine zb ?_) | ((apply zp6); first | refine zk3 ?_ | refine zb ?_) | ((apply zj2); first | refine zr ?_ | refine zi2 ?_ | refine zb ?_) | ((apply f_no); first | refine zn10 ?_ | refine zb ?_) | ((apply f_pk); first | refine zq4 (v := .c _) ?_ | refine zq4 (v := .tu _) ?_ | refine zb ?_) | ((apply f_ex); first | refine zo6 (v := .c _) ?_ | refine zo6 (v := .tu _) ?_ | refine zb ?_) | refine n_al ?_ | refine zb ?_) | ((apply f_w); first | refine zy ?_ | refine zd ?_) | ((apply d_wo); first | ((apply d_gs); first | refine o_sk ?_ | refine zh5 ?_) | ((apply d_bo); (refine o_gm ?_ ?_ <;> intro hG <;> (try cases hG))) | ((apply d_mv); first | refine zu (.c (.v _)) ?_ | refine zu (.c _) ?_ | refine zu (.ag _) ?_ | refine zu (.tu _) ?_ | refine zm ?_) | ((apply d_as); first | refine zv (.c (.v _)) ?_ | refine zv (.c _) ?_ | refine zv (.ag _) ?_ | refine zv (.tu _) ?_ | refine zm ?_) | ((apply d_ld); first | refine zn3 ?_ | refine zc2 ?_ | refine zd2 ?_ | refine zo3 ?_ | refine zm ?_ | refine o_ld ?_) | ((apply d_ca); first | refine zq5 (cb) ?_ | refine zq5 (cD) ?_ | refine zq5 (cx) ?_ | refine zq5 (cy) ?_ | refine zq5 (cE) ?_) | ((apply d_bi); first | refine zf2 ?_ | refine ze2 ?_ | refine zg2 ?_ | refine zv1 ?_ | refine zv1 (hnu := zj _) ?_ | refine ze1 ?_ | refine ze1 (hnu := zj _) ?_ | refine zm ?_) | ((apply d_st); first | refine o_st ?_ | refine zo4 ?_) | ((apply d_ia); first | refine o_ix ?_ | refine zj3 ?_ | refine zm ?_) | ((apply d_bb); first | refine zb1 ?_ | refine zc1 ?_ | refine zd1 ?_ | refine zm3 ?_ | refine zm ?_) | refine o_al ?_ | refine zy1 (.c (.v _)) ?_ | refine zy1 (.c _) ?_ | refine zm ?_) | ((apply d_w); first | refine zy ?_ | refine zd ?_) | refine za fun C => ?_ | refine zf (by kernel_rfl) (by kernel_rfl) fun C => ?_ | refine zi ?_ | refine ze ?_ | refine zg ?_ | refine zh ?_ | refine zp1 rfl ?_ | refine zq1 rfl ?_)
    refine zq ?_; refine ret0 rfl zj4 ⟨?_, rfl⟩
    rfl
  | true =>
    obtain ⟨l, ts2, ts3, hll, hl, e1, e2, hE2, hE3, hok, t1, t2, t3, k1, k2, k3⟩ := zt20 hE hkey hv ho
    rw [ho, e1] at cx cy
    have cd := zl8 hE2.ty nm key (hE2.sz (by omega))
    rw [e2] at cd
    have cE := zu10 hE2 (by omega)
    have cw := zd7 hE2 (by omega) nm key
    have cg := zd7 hE3 (by omega) nm key
    have ck1 := zh6 hE.ty nm (hE.sz (by omega))
    have ck2 := zh6 hE2.ty nm (hE2.sz (by omega))
    have ck3 := zh6 hE3.ty nm (hE3.sz (by omega))
    obtain ⟨v1, v2⟩ := zb18 (NmOk.nm hl) (v := .agg [.int .i64 a, .int .i64 b, .str s]) hok
    have d2 := zc18 (l := putL l key (.agg [.int .i64 a, .int .i64 b, .str s])) (s := key)
    rw [t2, v1, v2] at cw
    rw [t3, d2] at cg
    have hK := zn18 (NmOk.nm hl) (s := key) (v := .agg [.int .i64 a, .int .i64 b, .str s])
    have a2 := zy12 (l := putL l key (.agg [.int .i64 a, .int .i64 b, .str s])) (s := key)
    have a3 := zy12 (l := (putL l key (.agg [.int .i64 a, .int .i64 b, .str s])).filter (notNm key)) (s := key)
    rw [v2] at a2
    rw [d2] at a3
    rw [zp22 d2] at cg
    rw [k1] at ck1
    rw [k2] at ck2
    rw [k3] at ck3
    have hS2 := zm8 (putL l key (.agg [.int .i64 a, .int .i64 b, .str s]))
    have hS3 := zm8 ((putL l key (.agg [.int .i64 a, .int .i64 b, .str s])).filter (notNm key))
    have hS1 := zm8 l
    have n1 : (l.map keyE).length ≤ 40 := by rw [List.length_map]; exact hll
    have n3 : (((putL l key (.agg [.int .i64 a, .int .i64 b, .str s])).filter (notNm key)).map keyE).length ≤ ((putL l key (.agg [.int .i64 a, .int .i64 b, .str s])).map keyE).length := by rw [List.length_map, List.length_map]; exact List.length_filter_le _ _
    generalize ((putL l key (.agg [.int .i64 a, .int .i64 b, .str s])).filter (notNm key)).map keyE = K3 at *
    generalize (putL l key (.agg [.int .i64 a, .int .i64 b, .str s])).map keyE = K2 at *
    generalize l.map keyE = K1 at *
    have n2 : K1.length ≤ K2.length ∧ K2.length ≤ K1.length + 1 := by rcases hK with rfl | rfl <;> simp
    have hat : ∀ i x, K1[i]? = some x → K2[i]? = some x := fun i x hx => by
      rcases hK with rfl | rfl
      · exact hx
      · rw [List.getElem?_append_left (List.getElem?_eq_some_iff.1 hx).1]; exact hx
    have ch2 := zw10 hS2 (by omega) key
    have ch3 := zw10 hS3 (by omega) key
    rw [a2] at ch2
    rw [a3] at ch3
    have q1 : ∀ e ∈ K1, e.enc.length = 1 := fun e he => by obtain ⟨x, rfl⟩ := hS1 e he; rfl
    have q2 : ∀ e ∈ K2, e.enc.length = 1 := fun e he => by obtain ⟨x, rfl⟩ := hS2 e he; rfl
    clear hK k1 k2 k3 t1 t2 t3 v1 v2 d2 a2 a3 hS2 hS3 hok hl e1 e2
    refine zt1 Try.func5 rfl rfl ?_
    repeat' (first | ((apply f_wo); first | ((apply f_gs); first | refine n_sk ?_) | ((apply f_mv); first | (refine zi5 ?_ ?_ <;> intro hG <;> (try cases hG)) | refine zm1 (v := .c _) ?_ | refine zm1 (v := .tu _) ?_ | refine zb ?_) | ((apply f_as); first | refine zo1 (v := .c _) ?_ | refine zo1 (v := .tu _) ?_ | refine zb ?_) | ((apply f_ld); first | refine zi4 ?_ | refine zw2 ?_ | refine zs1 ?_ | refine zm2 ?_ | refine n_ld ?_) | ((apply f_ca); first | refine zc4 (cb) ?_ | refine zy3 (cb) ?_ | refine zc4 (cD) ?_ | refine zy3 (cD) ?_ | refine zc4 (cx) ?_ | refine zy3 (cx) ?_ | refine zc4 (cy) ?_ | refine zy3 (cy) ?_ | refine zc4 (cE) ?_ | refine zy3 (cE) ?_ | refine zc4 (cw) ?_ | refine zy3 (cw) ?_ | refine zc4 (cd) ?_ | refine zy3 (cd) ?_ | refine zc4 (cg) ?_ | refine zy3 (cg) ?_ | refine zc4 (ck1) ?_ | refine zy3 (ck1) ?_ | refine zc4 (ck2) ?_ | refine zy3 (ck2) ?_) | ((apply f_bi); first | refine zb3 ?_ | refine za3 ?_ | refine zc3 ?_ | refine zb ?_) | ((apply f_st); first | refine n_st ?_ | refine zo2 ?_) | ((apply f_ia); first | refine n_ix ?_ | refine zp2 ?_ | refine zb ?_) | ((apply zl3); first | refine ze6 ?_ | refine zb ?_) | ((apply zj5); first | refine zs3 ?_ | refine zf6 ?_ | refine zb ?_) | ((apply zd3); first | refine zx ?_ | refine zb ?_) | ((apply zp6); first | refine zk3 ?_ | refine zb ?_) | ((apply zj2); first | refine zr ?_ | refine zi2 ?_ | refine zb ?_) | ((apply f_no); first | refine zn10 ?_ | refine zb ?_) | ((apply f_pk); first | refine zq4 (v := .c _) ?_ | refine zq4 (v := .tu _) ?_ | refine zb ?_) | ((apply f_ex); first | refine zo6 (v := .c _) ?_ | refine zo6 (v := .tu _) ?_ | refine zb ?_) | refine n_al ?_ | refine zb ?_) | ((apply f_w); first | refine zy ?_ | refine zd ?_) | ((apply d_wo); first | ((apply d_gs); first | refine o_sk ?_ | refine zh5 ?_) | ((apply d_bo); (refine o_gm ?_ ?_ <;> intro hG <;> (try cases hG))) | ((apply d_mv); first | refine zu (.c (.v _)) ?_ | refine zu (.c _) ?_ | refine zu (.ag _) ?_ | refine zu (.tu _) ?_ | refine zm ?_) | ((apply d_as); first | refine zv (.c (.v _)) ?_ | refine zv (.c _) ?_ | refine zv (.ag _) ?_ | refine zv (.tu _) ?_ | refine zm ?_) | ((apply d_ld); first | refine zn3 ?_ | refine zc2 ?_ | refine zd2 ?_ | refine zo3 ?_ | refine zm ?_ | refine o_ld ?_) | ((apply d_ca); first | refine zq5 (cb) ?_ | refine zq5 (cD) ?_ | refine zq5 (cx) ?_ | refine zq5 (cy) ?_ | refine zq5 (cE) ?_ | refine zq5 (cw) ?_ | refine zq5 (cd) ?_ | refine zq5 (cg) ?_ | refine zq5 (ck1) ?_ | refine zq5 (ck2) ?_) | ((apply d_bi); first | refine zf2 ?_ | refine ze2 ?_ | refine zg2 ?_ | refine zv1 ?_ | refine zv1 (hnu := zj _) ?_ | refine ze1 ?_ | refine ze1 (hnu := zj _) ?_ | refine zm ?_) | ((apply d_st); first | refine o_st ?_ | refine zo4 ?_) | ((apply d_ia); first | refine o_ix ?_ | refine zj3 ?_ | refine zm ?_) | ((apply d_bb); first | refine zb1 ?_ | refine zc1 ?_ | refine zd1 ?_ | refine zm3 ?_ | refine zm ?_) | refine o_al ?_ | refine zy1 (.c (.v _)) ?_ | refine zy1 (.c _) ?_ | refine zm ?_) | ((apply d_w); first | refine zy ?_ | refine zd ?_) | refine za fun C => ?_ | refine zf (by kernel_rfl) (by kernel_rfl) fun C => ?_ | refine zi ?_ | refine ze ?_ | refine zg ?_ | refine zh ?_ | refine zp1 rfl ?_ | refine zq1 rfl ?_)
    refine zp3 (fun i : Nat => ⟨tmsF [(4, .c (.v (.string nm))), (5, .c (.v (.string key))), (6, .c (.pt 6 0)), (11, .c (.pt 11 0)), (12, .c (.v (.bool true))), (13, .c (.pt 13 0)), (15, .c (.v (.bool false))), (16, .c (.sl 8600 K1.length)), (17, .c (.sl 8900 K2.length)), (18, .c (.v (.int .i64 (i : Int))))],
      hpsF [(6, 6, ⟨29, 0, 0, true, [.v (.int .i64 a), .v (.int .i64 b), .v (.string s)]⟩), (11, 11, ⟨29, 0, 0, true, [.v (.int .i64 a), .v (.int .i64 b), .v (.string s)]⟩), (13, 13, ⟨27, 0, 0, true, [.sl 7600 vs.length, .sl 7601 ts3.length]⟩), (7600, 7600, ⟨34, 4, vs.length, false, owL vs⟩), (7601, 7601, ⟨80, 2, ts3.length, false, owL ts3⟩), (8600, 8600, ⟨9, 1, K1.length, false, owL K1⟩), (8900, 8900, ⟨9, 1, K2.length, false, owL K2⟩)], 0, [6, 11, 13, 7600, 7601, 8600, 8900], 135⟩)
      (fun N i => N + i = K1.length) K1.length 0 (by omega) ?_ ?_
    · (refine zx2 _ _ rfl rfl ?_ ?_ <;> (repeat' (first | exact TmOk.nil | exact RwOk.nil | refine TmOk.cons ?_ ?_ | refine RwOk.cons ?_ ?_ | rfl | (refine rnV_id' rfl ?_; (first | rfl | (simp [cloV, cloL, clo, zo, zn, zp, zl, zk]; done))) | (refine zf3 ?_; first | rfl | omega | (rw [zx1 (by omega) (by omega)]; omega)) | (refine zb2 rfl ?_; (first | rfl | (simp [cloV, cloL, clo, zo, zn, zp, zl, zk]; done))) | exact zl4 rfl rfl | (refine ze4 (by rfl) (by rfl) ?_ ?_ <;> (first | rfl | (simp [cloV, cloL, clo, zo, zn, zp, zl, zk]; done))) | (refine rw_rn' rfl rfl ?_; simp; done))))
    rintro N i hN
    clear cb cD cx cy cE cw cd cg ck1 ck2
    have hl3 := hE3.2.1
    repeat' (first | ((apply f_wo); first | ((apply f_gs); first | refine n_sk ?_) | ((apply f_mv); first | (refine zi5 ?_ ?_ <;> intro hG <;> (try cases hG)) | refine zm1 (v := .c _) ?_ | refine zm1 (v := .tu _) ?_ | refine zb ?_) | ((apply f_as); first | refine zo1 (v := .c _) ?_ | refine zo1 (v := .tu _) ?_ | refine zb ?_) | ((apply f_ld); first | refine zi4 ?_ | refine zw2 ?_ | refine zs1 ?_ | refine zm2 ?_ | refine n_ld ?_) | ((apply f_bi); first | refine zb3 ?_ | refine za3 ?_ | refine zc3 ?_ | refine zb ?_) | ((apply f_st); first | refine n_st ?_ | refine zo2 ?_) | ((apply f_ia); first | refine n_ix ?_ | refine zp2 ?_ | refine zb ?_) | ((apply zl3); first | refine ze6 ?_ | refine zb ?_) | ((apply zj5); first | refine zs3 ?_ | refine zf6 ?_ | refine zb ?_) | ((apply zd3); first | refine zx ?_ | refine zb ?_) | ((apply zp6); first | refine zk3 ?_ | refine zb ?_) | ((apply zj2); first | refine zr ?_ | refine zi2 ?_ | refine zb ?_) | ((apply f_no); first | refine zn10 ?_ | refine zb ?_) | ((apply f_pk); first | refine zq4 (v := .c _) ?_ | refine zq4 (v := .tu _) ?_ | refine zb ?_) | ((apply f_ex); first | refine zo6 (v := .c _) ?_ | refine zo6 (v := .tu _) ?_ | refine zb ?_) | refine n_al ?_ | refine zb ?_) | ((apply f_w); first | refine zy ?_ | refine zd ?_) | ((apply d_wo); first | ((apply d_gs); first | refine o_sk ?_ | refine zh5 ?_) | ((apply d_bo); (refine o_gm ?_ ?_ <;> intro hG <;> (try cases hG))) | ((apply d_mv); first | refine zu (.c (.v _)) ?_ | refine zu (.c _) ?_ | refine zu (.ag _) ?_ | refine zu (.tu _) ?_ | refine zm ?_) | ((apply d_as); first | refine zv (.c (.v _)) ?_ | refine zv (.c _) ?_ | refine zv (.ag _) ?_ | refine zv (.tu _) ?_ | refine zm ?_) | ((apply d_ld); first | refine zn3 ?_ | refine zc2 ?_ | refine zd2 ?_ | refine zo3 ?_ | refine zm ?_ | refine o_ld ?_) | ((apply d_bi); first | refine zf2 ?_ | refine ze2 ?_ | refine zg2 ?_ | refine zv1 ?_ | refine zv1 (hnu := zj _) ?_ | refine ze1 ?_ | refine ze1 (hnu := zj _) ?_ | refine zm ?_) | ((apply d_st); first | refine o_st ?_ | refine zo4 ?_) | ((apply d_ia); first | refine o_ix ?_ | refine zj3 ?_ | refine zm ?_) | ((apply d_bb); first | refine zb1 ?_ | refine zc1 ?_ | refine zd1 ?_ | refine zm3 ?_ | refine zm ?_) | refine o_al ?_ | refine zy1 (.c (.v _)) ?_ | refine zy1 (.c _) ?_ | refine zm ?_) | ((apply d_w); first | refine zy ?_ | refine zd ?_) | refine za fun C => ?_ | refine zf (by kernel_rfl) (by kernel_rfl) fun C => ?_ | refine zi ?_ | refine ze ?_ | refine zg ?_ | refine zh ?_)
    refine zu1 (by rfl) (fun hC => ?_) fun hC => ?_
    · have hi : i < K1.length := by simpa using hC
      obtain ⟨x, hx⟩ : ∃ x, K1[i]? = some x := ⟨_, List.getElem?_eq_getElem hi⟩
      obtain ⟨q, rfl⟩ := hS1 x (List.mem_of_getElem? hx)
      have hs1 : subL (owL K1) (i * 1) 1 = [.v (.string q)] := za19 (j := 0) q1 hx (by omega)
      have hs2 : subL (owL K2) (i * 1) 1 = [.v (.string q)] := za19 (j := 0) q2 (hat i _ hx) (by omega)
      have hi2 : i < K2.length := by omega
      repeat' (first | ((apply f_wo); first | ((apply f_gs); first | refine n_sk ?_) | ((apply f_mv); first | (refine zi5 ?_ ?_ <;> intro hG <;> (try cases hG)) | refine zm1 (v := .c _) ?_ | refine zm1 (v := .tu _) ?_ | refine zb ?_) | ((apply f_as); first | refine zo1 (v := .c _) ?_ | refine zo1 (v := .tu _) ?_ | refine zb ?_) | ((apply f_ld); first | refine zi4 ?_ | refine zw2 ?_ | refine zs1 ?_ | refine zm2 ?_ | refine n_ld ?_) | ((apply f_bi); first | refine zb3 ?_ | refine za3 ?_ | refine zc3 ?_ | refine zb ?_) | ((apply f_st); first | refine n_st ?_ | refine zo2 ?_) | ((apply f_ia); first | refine n_ix ?_ | refine zp2 ?_ | refine zb ?_) | ((apply zl3); first | refine ze6 ?_ | refine zb ?_) | ((apply zj5); first | refine zs3 ?_ | refine zf6 ?_ | refine zb ?_) | ((apply zd3); first | refine zx ?_ | refine zb ?_) | ((apply zp6); first | refine zk3 ?_ | refine zb ?_) | ((apply zj2); first | refine zr ?_ | refine zi2 ?_ | refine zb ?_) | ((apply f_no); first | refine zn10 ?_ | refine zb ?_) | ((apply f_pk); first | refine zq4 (v := .c _) ?_ | refine zq4 (v := .tu _) ?_ | refine zb ?_) | ((apply f_ex); first | refine zo6 (v := .c _) ?_ | refine zo6 (v := .tu _) ?_ | refine zb ?_) | refine n_al ?_ | refine zb ?_) | ((apply f_w); first | refine zy ?_ | refine zd ?_) | ((apply d_wo); first | ((apply d_gs); first | refine o_sk ?_ | refine zh5 ?_) | ((apply d_bo); (refine o_gm ?_ ?_ <;> intro hG <;> (try cases hG))) | ((apply d_mv); first | refine zu (.c (.v _)) ?_ | refine zu (.c _) ?_ | refine zu (.ag _) ?_ | refine zu (.tu _) ?_ | refine zm ?_) | ((apply d_as); first | refine zv (.c (.v _)) ?_ | refine zv (.c _) ?_ | refine zv (.ag _) ?_ | refine zv (.tu _) ?_ | refine zm ?_) | ((apply d_ld); first | refine zn3 ?_ | refine zc2 ?_ | refine zd2 ?_ | refine zo3 ?_ | refine zm ?_ | refine o_ld ?_) | ((apply d_bi); first | refine zf2 ?_ | refine ze2 ?_ | refine zg2 ?_ | refine zv1 ?_ | refine zv1 (hnu := zj _) ?_ | refine ze1 ?_ | refine ze1 (hnu := zj _) ?_ | refine zm ?_) | ((apply d_st); first | refine o_st ?_ | refine zo4 ?_) | ((apply d_ia); first | refine o_ix ?_ | refine zj3 ?_ | refine zm ?_) | ((apply d_bb); first | refine zb1 ?_ | refine zc1 ?_ | refine zd1 ?_ | refine zm3 ?_ | refine zm ?_) | refine o_al ?_ | refine zy1 (.c (.v _)) ?_ | refine zy1 (.c _) ?_ | refine zm ?_) | ((apply d_w); first | refine zy ?_ | refine zd ?_) | refine za fun C => ?_ | refine zf (by kernel_rfl) (by kernel_rfl) fun C => ?_ | refine zi ?_ | refine ze ?_ | refine zg ?_ | refine zh ?_ | refine zp1 rfl ?_ | refine zq1 rfl ?_)
      refine zu1 (by rfl) (fun hC => by exfalso; simp [bne] at hC) fun hC => ?_
      repeat' (first | ((apply f_wo); first | ((apply f_gs); first | refine n_sk ?_) | ((apply f_mv); first | (refine zi5 ?_ ?_ <;> intro hG <;> (try cases hG)) | refine zm1 (v := .c _) ?_ | refine zm1 (v := .tu _) ?_ | refine zb ?_) | ((apply f_as); first | refine zo1 (v := .c _) ?_ | refine zo1 (v := .tu _) ?_ | refine zb ?_) | ((apply f_ld); first | refine zi4 ?_ | refine zw2 ?_ | refine zs1 ?_ | refine zm2 ?_ | refine n_ld ?_) | ((apply f_bi); first | refine zb3 ?_ | refine za3 ?_ | refine zc3 ?_ | refine zb ?_) | ((apply f_st); first | refine n_st ?_ | refine zo2 ?_) | ((apply f_ia); first | refine n_ix ?_ | refine zp2 ?_ | refine zb ?_) | ((apply zl3); first | refine ze6 ?_ | refine zb ?_) | ((apply zj5); first | refine zs3 ?_ | refine zf6 ?_ | refine zb ?_) | ((apply zd3); first | refine zx ?_ | refine zb ?_) | ((apply zp6); first | refine zk3 ?_ | refine zb ?_) | ((apply zj2); first | refine zr ?_ | refine zi2 ?_ | refine zb ?_) | ((apply f_no); first | refine zn10 ?_ | refine zb ?_) | ((apply f_pk); first | refine zq4 (v := .c _) ?_ | refine zq4 (v := .tu _) ?_ | refine zb ?_) | ((apply f_ex); first | refine zo6 (v := .c _) ?_ | refine zo6 (v := .tu _) ?_ | refine zb ?_) | refine n_al ?_ | refine zb ?_) | ((apply f_w); first | refine zy ?_ | refine zd ?_) | ((apply d_wo); first | ((apply d_gs); first | refine o_sk ?_ | refine zh5 ?_) | ((apply d_bo); (refine o_gm ?_ ?_ <;> intro hG <;> (try cases hG))) | ((apply d_mv); first | refine zu (.c (.v _)) ?_ | refine zu (.c _) ?_ | refine zu (.ag _) ?_ | refine zu (.tu _) ?_ | refine zm ?_) | ((apply d_as); first | refine zv (.c (.v _)) ?_ | refine zv (.c _) ?_ | refine zv (.ag _) ?_ | refine zv (.tu _) ?_ | refine zm ?_) | ((apply d_ld); first | refine zn3 ?_ | refine zc2 ?_ | refine zd2 ?_ | refine zo3 ?_ | refine zm ?_ | refine o_ld ?_) | ((apply d_bi); first | refine zf2 ?_ | refine ze2 ?_ | refine zg2 ?_ | refine zv1 ?_ | refine zv1 (hnu := zj _) ?_ | refine ze1 ?_ | refine ze1 (hnu := zj _) ?_ | refine zm ?_) | ((apply d_st); first | refine o_st ?_ | refine zo4 ?_) | ((apply d_ia); first | refine o_ix ?_ | refine zj3 ?_ | refine zm ?_) | ((apply d_bb); first | refine zb1 ?_ | refine zc1 ?_ | refine zd1 ?_ | refine zm3 ?_ | refine zm ?_) | refine o_al ?_ | refine zy1 (.c (.v _)) ?_ | refine zy1 (.c _) ?_ | refine zm ?_) | ((apply d_w); first | refine zy ?_ | refine zd ?_) | refine za fun C => ?_ | refine zf (by kernel_rfl) (by kernel_rfl) fun C => ?_ | refine zi ?_ | refine ze ?_ | refine zg ?_ | refine zh ?_ | refine zp1 rfl ?_ | refine zq1 rfl ?_)
      refine ⟨N - 1, i + 1, by omega, by omega, ?_⟩
      (refine zx2 _ _ rfl rfl ?_ ?_ <;> (repeat' (first | exact TmOk.nil | exact RwOk.nil | refine TmOk.cons ?_ ?_ | refine RwOk.cons ?_ ?_ | rfl | (refine rnV_id' rfl ?_; (first | rfl | (simp [cloV, cloL, clo, zo, zn, zp, zl, zk]; done))) | (refine zf3 ?_; first | rfl | omega | (rw [zx1 (by omega) (by omega)]; omega)) | (refine zb2 rfl ?_; (first | rfl | (simp [cloV, cloL, clo, zo, zn, zp, zl, zk]; done))) | exact zl4 rfl rfl | (refine ze4 (by rfl) (by rfl) ?_ ?_ <;> (first | rfl | (simp [cloV, cloL, clo, zo, zn, zp, zl, zk]; done))) | (refine rw_rn' rfl rfl ?_; simp; done))))
    · repeat' (first | ((apply f_wo); first | ((apply f_gs); first | refine n_sk ?_) | ((apply f_mv); first | (refine zi5 ?_ ?_ <;> intro hG <;> (try cases hG)) | refine zm1 (v := .c _) ?_ | refine zm1 (v := .tu _) ?_ | refine zb ?_) | ((apply f_as); first | refine zo1 (v := .c _) ?_ | refine zo1 (v := .tu _) ?_ | refine zb ?_) | ((apply f_ld); first | refine zi4 ?_ | refine zw2 ?_ | refine zs1 ?_ | refine zm2 ?_ | refine n_ld ?_) | ((apply f_bi); first | refine zb3 ?_ | refine za3 ?_ | refine zc3 ?_ | refine zb ?_) | ((apply f_st); first | refine n_st ?_ | refine zo2 ?_) | ((apply f_ia); first | refine n_ix ?_ | refine zp2 ?_ | refine zb ?_) | ((apply zl3); first | refine ze6 ?_ | refine zb ?_) | ((apply zj5); first | refine zs3 ?_ | refine zf6 ?_ | refine zb ?_) | ((apply zd3); first | refine zx ?_ | refine zb ?_) | ((apply zp6); first | refine zk3 ?_ | refine zb ?_) | ((apply zj2); first | refine zr ?_ | refine zi2 ?_ | refine zb ?_) | ((apply f_no); first | refine zn10 ?_ | refine zb ?_) | ((apply f_pk); first | refine zq4 (v := .c _) ?_ | refine zq4 (v := .tu _) ?_ | refine zb ?_) | ((apply f_ex); first | refine zo6 (v := .c _) ?_ | refine zo6 (v := .tu _) ?_ | refine zb ?_) | refine n_al ?_ | refine zb ?_) | ((apply f_w); first | refine zy ?_ | refine zd ?_) | ((apply d_wo); first | ((apply d_gs); first | refine o_sk ?_ | refine zh5 ?_) | ((apply d_bo); (refine o_gm ?_ ?_ <;> intro hG <;> (try cases hG))) | ((apply d_mv); first | refine zu (.c (.v _)) ?_ | refine zu (.c _) ?_ | refine zu (.ag _) ?_ | refine zu (.tu _) ?_ | refine zm ?_) | ((apply d_as); first | refine zv (.c (.v _)) ?_ | refine zv (.c _) ?_ | refine zv (.ag _) ?_ | refine zv (.tu _) ?_ | refine zm ?_) | ((apply d_ld); first | refine zn3 ?_ | refine zc2 ?_ | refine zd2 ?_ | refine zo3 ?_ | refine zm ?_ | refine o_ld ?_) | ((apply d_bi); first | refine zf2 ?_ | refine ze2 ?_ | refine zg2 ?_ | refine zv1 ?_ | refine zv1 (hnu := zj _) ?_ | refine ze1 ?_ | refine ze1 (hnu := zj _) ?_ | refine zm ?_) | ((apply d_st); first | refine o_st ?_ | refine zo4 ?_) | ((apply d_ia); first | refine o_ix ?_ | refine zj3 ?_ | refine zm ?_) | ((apply d_bb); first | refine zb1 ?_ | refine zc1 ?_ | refine zd1 ?_ | refine zm3 ?_ | refine zm ?_) | refine o_al ?_ | refine zy1 (.c (.v _)) ?_ | refine zy1 (.c _) ?_ | refine zm ?_) | ((apply d_w); first | refine zy ?_ | refine zd ?_) | refine za fun C => ?_ | refine zf (by kernel_rfl) (by kernel_rfl) fun C => ?_ | refine zi ?_ | refine ze ?_ | refine zg ?_ | refine zh ?_ | refine zp1 rfl ?_ | refine zq1 rfl ?_)
      refine zo20 ?_
      repeat' (first | ((apply f_wo); first | ((apply f_gs); first | refine n_sk ?_) | ((apply f_mv); first | (refine zi5 ?_ ?_ <;> intro hG <;> (try cases hG)) | refine zm1 (v := .c _) ?_ | refine zm1 (v := .tu _) ?_ | refine zb ?_) | ((apply f_as); first | refine zo1 (v := .c _) ?_ | refine zo1 (v := .tu _) ?_ | refine zb ?_) | ((apply f_ld); first | refine zi4 ?_ | refine zw2 ?_ | refine zs1 ?_ | refine zm2 ?_ | refine n_ld ?_) | ((apply f_ca); first | refine zc4 (ck3) ?_ | refine zy3 (ck3) ?_ | refine zc4 (ch2) ?_ | refine zy3 (ch2) ?_ | refine zc4 (ch3) ?_ | refine zy3 (ch3) ?_) | ((apply f_bi); first | refine zb3 ?_ | refine za3 ?_ | refine zc3 ?_ | refine zb ?_) | ((apply f_st); first | refine n_st ?_ | refine zo2 ?_) | ((apply f_ia); first | refine n_ix ?_ | refine zp2 ?_ | refine zb ?_) | ((apply zl3); first | refine ze6 ?_ | refine zb ?_) | ((apply zj5); first | refine zs3 ?_ | refine zf6 ?_ | refine zb ?_) | ((apply zd3); first | refine zx ?_ | refine zb ?_) | ((apply zp6); first | refine zk3 ?_ | refine zb ?_) | ((apply zj2); first | refine zr ?_ | refine zi2 ?_ | refine zb ?_) | ((apply f_no); first | refine zn10 ?_ | refine zb ?_) | ((apply f_pk); first | refine zq4 (v := .c _) ?_ | refine zq4 (v := .tu _) ?_ | refine zb ?_) | ((apply f_ex); first | refine zo6 (v := .c _) ?_ | refine zo6 (v := .tu _) ?_ | refine zb ?_) | refine n_al ?_ | refine zb ?_) | ((apply f_w); first | refine zy ?_ | refine zd ?_) | ((apply d_wo); first | ((apply d_gs); first | refine o_sk ?_ | refine zh5 ?_) | ((apply d_bo); (refine o_gm ?_ ?_ <;> intro hG <;> (try cases hG))) | ((apply d_mv); first | refine zu (.c (.v _)) ?_ | refine zu (.c _) ?_ | refine zu (.ag _) ?_ | refine zu (.tu _) ?_ | refine zm ?_) | ((apply d_as); first | refine zv (.c (.v _)) ?_ | refine zv (.c _) ?_ | refine zv (.ag _) ?_ | refine zv (.tu _) ?_ | refine zm ?_) | ((apply d_ld); first | refine zn3 ?_ | refine zc2 ?_ | refine zd2 ?_ | refine zo3 ?_ | refine zm ?_ | refine o_ld ?_) | ((apply d_ca); first | refine zq5 (ck3) ?_ | refine zq5 (ch2) ?_ | refine zq5 (ch3) ?_) | ((apply d_bi); first | refine zf2 ?_ | refine ze2 ?_ | refine zg2 ?_ | refine zv1 ?_ | refine zv1 (hnu := zj _) ?_ | refine ze1 ?_ | refine ze1 (hnu := zj _) ?_ | refine zm ?_) | ((apply d_st); first | refine o_st ?_ | refine zo4 ?_) | ((apply d_ia); first | refine o_ix ?_ | refine zj3 ?_ | refine zm ?_) | ((apply d_bb); first | refine zb1 ?_ | refine zc1 ?_ | refine zd1 ?_ | refine zm3 ?_ | refine zm ?_) | refine o_al ?_ | refine zy1 (.c (.v _)) ?_ | refine zy1 (.c _) ?_ | refine zm ?_) | ((apply d_w); first | refine zy ?_ | refine zd ?_) | refine za fun C => ?_ | refine zf (by kernel_rfl) (by kernel_rfl) fun C => ?_ | refine zi ?_ | refine ze ?_ | refine zg ?_ | refine zh ?_ | refine zp1 rfl ?_ | refine zq1 rfl ?_)
      all_goals first
        | (exfalso; simp only [decide_eq_false_iff_not] at hG; omega)
        | skip
      refine zq ?_; refine ret0 rfl zj4 ⟨?_, rfl⟩
      rfl
end Go.Proofs.Ytghljnfbbaklnaa
