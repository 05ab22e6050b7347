/- A new cursor: its call, in the machine. -/
import Derived.Test.YtnlgmojciplnoaaDoorFlxPX
namespace Go.Proofs.YtnlgmojciplnoaaDoor
open Go.RowKit
set_option maxRecDepth 100000
def hsh (bs : List UInt8) : Nat → Int
  | 0 => wrap64 (348348 + (bs.length : Int))
  | k + 1 => bits .and .i64 (wrap64 (wrap64 (wrap64 (hsh bs k * 137) + wrap64 ((bs[k]?.getD 0).toNat : Int)) + 11)) 1073741823
set_option maxHeartbeats 1000000 in
theorem zc14 (bs : List UInt8) : ∃ h : Int, ∀ (A : Option Addr) (c : Nat) (w : World), Rd w 1 encB (.slice A bs.length c) bs →
    Calls Tryd.prog 20 #[.slice A bs.length c] w fun e w' => e = .returned (.pointer (some ⟨w.heap.size, 0, none⟩)) ∧ ∃ n, w' = (w.alloc (.cells #[.slice A bs.length c, .int .i64 0, .int .i64 h] 57)).drewN n := by
  refine ⟨hsh bs (min bs.length 4000), fun A c w hs => ?_⟩
  have hlen := hs.len_le
  go_enter Tryd.func20, Tryd.ntmps20
  go_wp2
  go_loopw [3, 4] (fun h i wr => ∃ k : Nat, k ≤ min bs.length 4000 ∧ i = .int .i64 k ∧ h = .int .i64 (hsh bs k) ∧ wr = w) (fun _ i _ => bs.length - (intOf i).toNat)
  case atStart => exact ⟨0, Nat.zero_le _, rfl, rfl, rfl⟩
  case round =>
    obtain ⟨k, hk, rfl, rfl, rfl⟩ := hrel
    by_cases hlt : k < bs.length ∧ k < 4000
    · obtain ⟨hlt, h4⟩ := hlt
      obtain ⟨g, o, rfl, _, _, hcell⟩ := Sl.at1 hs hlt
      have c0 := hcell _ rfl
      clear hcell
      go_wp2
      go_roundw
      case rel => exact ⟨k + 1, by omega, by go_num, by simp [hsh, List.getElem?_eq_getElem hlt], trivial⟩
      case measure => simp [intOf]; omega
    · have hke : k = min bs.length 4000 := by omega
      rw [← hke]
      by_cases hlt2 : k < bs.length
      · have h4 : ¬ k < 4000 := fun h => hlt ⟨hlt2, h⟩
        clear hlt
        go_wp2
        go_ret
        exact ⟨rfl, 0, rfl⟩
      · clear hlt
        go_wp2
        go_ret
        exact ⟨rfl, 0, rfl⟩
def bE8 (bs : List UInt8) : List E := bs.map fun b => .int .u8 (b.toNat : Int)
theorem zt17 {bs : List UInt8} : (bE8 bs).length = bs.length := by simp [bE8]
theorem zq22 (bs : List UInt8) : Byt (bE8 bs) := fun e he => by
  obtain ⟨b, -, rfl⟩ := List.mem_map.1 he
  exact ⟨b.toNat, b.toNat_lt, rfl⟩
theorem zd14 {w : World} {St : Nat → Prop} {φ : Nat → Lc} {K : Nat → Prop} : ∀ {bs : List UInt8} {us : List Value} {fp : List Nat}, CRL w St φ K (acL (bE8 bs)) us fp → us = bs.map fun b => .int .u8 b.toNat
  | [], us, fp, h => by
    have h' : CRL w St φ K [] us fp := h
    simp only [CRL] at h'
    exact h'.1
  | b :: r, us, fp, h => by
    have h' : CRL w St φ K (.v (.int .u8 b.toNat) :: acL (bE8 r)) us fp := h
    simp only [CRL] at h'
    obtain ⟨u, us', f1, f2, rfl, rfl, h1, h2⟩ := h'
    simp only [CR] at h1
    obtain ⟨rfl, -⟩ := h1
    rw [zd14 h2]
    rfl
theorem ro_rdE {w : World} {St : Nat → Prop} {φ : Nat → Lc} {K : Nat → Prop} {u : Value} {bs : List UInt8} (h : VR w St φ K (.c (.ro bs.length 1 (acL (bE8 bs)))) u) : ∃ A c, u = .slice A bs.length c ∧ Rd w 1 encB (.slice A bs.length c) bs := by
  simp only [VR, CR] at h
  obtain ⟨-, A, c, rfl, ⟨h1, h2, h3⟩, h4, h5⟩ := h
  refine ⟨A, c, rfl, A, c, rfl, h1, ⟨h2, h3⟩, fun hn => ?_⟩
  obtain ⟨b, o, us, rfl, -, hlt, hc, hcr⟩ := h5 hn
  refine ⟨b, o, rfl, Nat.zero_le _, hlt, fun i hi j u hu => ?_⟩
  have hus := zd14 hcr
  have hj : j = 0 ∧ u = .int .u8 bs[i].toNat := by
    cases j with
    | zero => simp [encB] at hu; exact ⟨rfl, hu.symm⟩
    | succ j => simp [encB] at hu
  obtain ⟨rfl, rfl⟩ := hj
  have := hc i (.int .u8 bs[i].toNat) (by rw [hus, List.getElem?_map, List.getElem?_eq_getElem hi]; rfl)
  rw [Nat.mul_one, Nat.add_zero]
  exact this
def newCur (bs : List UInt8) (h : Int) : List AC := [.ro bs.length 1 (acL (bE8 bs)), .v (.int .i64 0), .v (.int .i64 h)]
theorem zf9 {bs : List UInt8} {h : Int} (hl : bs.length ≤ 1048576) : Curs (newCur bs h) := by
  refine ⟨bE8 bs, 0, h, zq22 bs, Nat.zero_le _, by rw [zt17]; exact hl, ?_⟩
  rw [zt17]; rfl
theorem zm10 {ops : Array Oper} {Q : Exit → Act → World → Prop} {C : Ctx} {i : Nat} {r : List Nat} {tm : Nat → AV} {hp : Nat → Option Row} {gn L : Nat} {us : List Nat} {ty cT : TypeId} {gd : Option (Nat × Bool)} {ps : String} {af : Array Edge} {t : Nat} {xo fv : Operand} {bs : List UInt8} {hh : Int}
    (hnew : ∀ (A : Option Addr) (c : Nat) (w : World), Rd w 1 encB (.slice A bs.length c) bs → Calls Tryd.prog 20 #[.slice A bs.length c] w fun e w' => e = .returned (.pointer (some ⟨w.heap.size, 0, none⟩)) ∧ ∃ n, w' = (w.alloc (.cells #[.slice A bs.length c, .int .i64 0, .int .i64 hh] 57)).drewN n)
    (h : Walk Tryd.prog ops Q C false [] r ⟨upd tm t (.c (.pt t 0)), upd hp t (some ⟨57, 0, 0, true, newCur bs hh⟩), gn, t :: us, L⟩)
    (ht : Nat.blt t L = true := by exact rfl) (hg : gw ops tm (⟨some t, .call ⟨.value fv, #[xo], #[cT]⟩, ty, ps, af, gd⟩ : Oper) = some true := by exact rfl) (hf : (Nat.ble gn t && !us.contains t) = true := by exact rfl)
    (hfv : AS.ev ⟨tm, hp, gn, us, L⟩ fv = .c (.fn 20 []) := by exact rfl) (hx : AS.ev ⟨tm, hp, gn, us, L⟩ xo = .c (.ro bs.length 1 (acL (bE8 bs))) := by exact rfl) :
    WalkO Tryd.prog ops Q C false [] i (⟨some t, .call ⟨.value fv, #[xo], #[cT]⟩, ty, ps, af, gd⟩ : Oper) r ⟨tm, hp, gn, us, L⟩ := ⟨fun hop => by
  simp only [Bool.and_eq_true, Nat.ble_eq, Bool.not_eq_true'] at hf
  have hnu : t ∉ us := fun hm => by have := hf.2; simp at this; exact this hm
  refine ⟨_, ⟨[], [(t, some ⟨57, 0, 0, true, newCur bs hh⟩)], [t], .c (.pt t 0)⟩, hop, ?_, fun m hm => ?_, zu4 (by exact zf2), ?_⟩
  · intro τ a w ha hsim K hK
    obtain ⟨φ, F, St, hsim⟩ := hsim
    have e1 : τ.ev xo = .c (.ro bs.length 1 (acL (bE8 bs))) := by rw [ha.ev xo (by simp [Op.operands, Call.operands])]; exact hx
    have e2 : τ.ev fv = .c (.fn 20 []) := by rw [ha.ev fv (by simp [Op.operands, Call.operands])]; exact hfv
    have v1 := hsim.ev xo
    have v2 := hsim.ev fv
    rw [e1] at v1
    rw [e2] at v2
    simp only [VR, CR] at v2
    obtain ⟨-, us2, hfu, hcaps⟩ := v2
    obtain ⟨rfl, -⟩ : us2 = [] ∧ True := by simp only [CRL] at hcaps; exact ⟨hcaps.1, trivial⟩
    obtain ⟨A, c, hev, hrd⟩ := ro_rdE v1
    unfold wpOp
    rw [hop]
    have hw := zm14 hsim (b := true) (by rw [ha.gw]; exact hg)
    simp only [hw, if_true]
    refine .inl ?_
    unfold Oper.wp
    have hrun : (execOp a.eval (⟨some t, .call ⟨.value fv, #[xo], #[cT]⟩, ty, ps, af, gd⟩ : Oper)).run Tryd.prog w = .ok (.enter 20 #[.slice A bs.length c]) w := by
      have h1 : (resolve a.eval ⟨.value fv, #[xo], #[cT]⟩ ty).run Tryd.prog w = .ok { target := .fn (.func 20) #[], args := #[.slice A bs.length c] } w := by
        unfold resolve; simp only [hfu, Deferred.ofValue, Sem.run_pure]
        simp [hev]
      have h2 : execOp a.eval (⟨some t, .call ⟨.value fv, #[xo], #[cT]⟩, ty, ps, af, gd⟩ : Oper) = (do let d ← resolve a.eval ⟨.value fv, #[xo], #[cT]⟩ ty; invoke d.target d.args) := by unfold execOp; rfl
      rw [h2, Sem.run_bind, h1]
      simp only [Result.andThen_ok, invoke]
      exact zr7 (by kernel_rfl) _ _
    rw [hrun, Oper.upon_enter]
    refine (hnew A c w hrd).mono ?_
    rintro e w' ⟨rfl, n, rfl⟩
    have hcr : CRL w St φ τ.Kn (newCur bs hh) [.slice A bs.length c, .int .i64 0, .int .i64 hh] [] := by
      refine CRL.cons (f := []) (f' := []) ?_ (CRL.cons (f := []) (f' := []) (by simp only [CR]; exact ⟨trivial, rfl, trivial⟩) (CRL.cons (f := []) (f' := []) (by simp only [CR]; exact ⟨trivial, rfl, trivial⟩) CRL.nil))
      simp only [VR] at v1
      rw [← hev]
      exact v1
    obtain ⟨φ', F', St', s1, s2⟩ := hsim.newBox (id := t) (by rw [ha.gn]; exact hf.1) (ha.us t (by simp)) hcr 57
    have s3 := s1.keep (w' := (w.alloc (.cells #[.slice A bs.length c, .int .i64 0, .int .i64 hh] 57)).drewN n) (Stp.drawn _ _ none)
    exact hK _ _ ⟨φ', F', St', s3.put (some t) (VR.mono (fun b hb _ => ⟨hb, rfl⟩) (Nat.le_refl _) (fun _ hi => ⟨hi, rfl⟩) _ _ s2)⟩
  · have : m = t := by simpa using hm
    subst this
    exact hnu
  · refine zw3 ?_
    show Walk Tryd.prog ops Q C false [] r (AS.put _ (some t) _)
    rw [zf5 (by exact zy4 ht)]; exact h⟩
theorem zu17 {s : ByteArray} {a : Nat} {rex : Bool} (ha : a < s.size) (h : (oneR s a rex).ok = true) : good rex ((oneR s a rex).k, (oneR s a rex).n, (oneR s a rex).s) := by
  refine ⟨h, fun h4 => ?_, fun h5 hs => ?_⟩
  · dsimp only at h4
    have hq3 : (quoR s a 3).k = 4 → False := fun h => by
      unfold quoR at h
      split at h <;> (dsimp only at h; omega)
    unfold oneR at h4
    split at h4
    · (dsimp only at h4; omega)
    · split at h4
      · (dsimp only at h4; omega)
      · split at h4
        · exact (hq3 h4).elim
        · split at h4
          · rename_i hh; exact hh.2
          · split at h4 <;> (dsimp only at h4; omega)
  · dsimp only at h5 hs
    have hq : ∀ k : Int, k ≠ 5 → (quoR s a k).k = 5 → False := fun k hk h => by
      unfold quoR at h
      split at h
      · (dsimp only at h; omega)
      · exact hk h
    unfold oneR at h5 hs
    split at h5
    · (dsimp only at h5; omega)
    · rename_i n1
      rw [if_neg n1] at hs
      split at h5
      · (dsimp only at h5; omega)
      · rename_i n2
        rw [if_neg n2] at hs
        split at h5
        · exact (hq 3 (by decide) h5).elim
        · rename_i n3
          rw [if_neg n3] at hs
          split at h5
          · exact (hq 4 (by decide) h5).elim
          · rename_i n4
            rw [if_neg n4] at hs
            split at hs
            · rename_i hh
              have hz := zy2 (s := s) (a := a) (b := a + 2) (by omega) (by omega)
              have hs' : cutB s a (a + 2) = ⟨#[47]⟩ := hs
              rw [hs'] at hz
              have : (⟨#[47]⟩ : ByteArray).size = 1 := rfl
              omega
            · have hs' : cutB s a (a + 1) = ⟨#[47]⟩ := hs
              have e := zk4 (s := s) (a := a) (b := a + 1) (j := 0) (by omega) (by omega)
              rw [hs'] at e
              have e' : bAt s a = 47 := e.symm
              cases rex with
              | false => rfl
              | true => exact absurd ⟨e', rfl⟩ n4
theorem zq11 {s : ByteArray} : ∀ (f a : Nat) (rex : Bool) (out : List T3), ch false out rex → out.length ≤ 2000 →
    ∃ (l : List T3) (r' : Bool), (lexR s f a rex (out.map T3.E)).1 = l.map T3.E ∧ ch false l r' ∧ l.length ≤ 2000 ∧ (((lexR s f a rex (out.map T3.E)).2 = -1) ∨ (0 ≤ (lexR s f a rex (out.map T3.E)).2 ∧ (lexR s f a rex (out.map T3.E)).2 < s.size ∧ l = []))
  | 0, a, rex, out, hc, hl => ⟨out, rex, rfl, hc, hl, .inl rfl⟩
  | f + 1, a, rex, out, hc, hl => by
    unfold lexR
    split
    · rename_i ha
      split
      · rename_i hh
        have hg := zu17 ha hh.1
        have hm := hh.2
        rw [List.length_map] at hm
        have := zq11 (s := s) f (passF s (s.size + 1) (oneR s a rex).e) (tilB (oneR s a rex).k (oneR s a rex).s) (out ++ [((oneR s a rex).k, (oneR s a rex).n, (oneR s a rex).s)]) (zl17 hc hg) (by rw [List.length_append, List.length_singleton]; omega)
        rw [List.map_append] at this
        exact this
      · exact ⟨[], false, rfl, rfl, Nat.zero_le _, .inr ⟨Int.natCast_nonneg _, by show (a : Int) < _; omega, rfl⟩⟩
    · exact ⟨out, rex, rfl, hc, hl, .inl rfl⟩
theorem zv17 (s : ByteArray) : ∃ (l : List T3) (r' : Bool), (lexW s).1 = l.map T3.E ∧ ch false l r' ∧ l.length ≤ 2000 ∧ ((lexW s).2 = -1 ∨ (0 ≤ (lexW s).2 ∧ (lexW s).2 < s.size ∧ l = [])) :=
  zq11 (s := s) (s.size + 1) (passT s 0) false [] rfl (Nat.zero_le _)
theorem zi7 {k n : Int} {s : ByteArray} (h : tokOk k n s = true) : s.size ≤ 200 ∧ 0 ≤ n ∧ n ≤ 2147483647 ∧ 1 ≤ k ∧ k ≤ 5 := by
  unfold tokOk at h
  split at h
  · simp only [Bool.and_eq_true, decide_eq_true_iff] at h; omega
  · split at h
    · simp only [nameW, Bool.and_eq_true, decide_eq_true_iff] at h; omega
    · split at h
      · simp only [textB, Bool.and_eq_true, decide_eq_true_iff] at h; omega
      · split at h
        · simp only [textB, Bool.and_eq_true, decide_eq_true_iff] at h; omega
        · split at h
          · simp only [Bool.and_eq_true, decide_eq_true_iff] at h
            have h2 : s.size ≤ 2 := by
              have := h.1
              simp only [markB, Bool.or_eq_true, Bool.and_eq_true, decide_eq_true_iff] at this
              omega
            omega
          · cases h
theorem zs20 {x : Int} (h0 : -9223372036854775808 ≤ x) (h1 : x ≤ 9223372036854775807) : (Lit.int .i64 x).wf = true := by
  have e1 : IntKind.i64.min = -9223372036854775808 := by decide
  have e2 : IntKind.i64.max = 9223372036854775807 := by decide
  simp only [Lit.wf, Bool.and_eq_true, decide_eq_true_iff]
  rw [e1, e2]
  omega
theorem T3.Ty {t : T3} (h : tokOk t.1 t.2.1 t.2.2 = true) : t.E.Ty Tryd.prog 31 := by
  have := zi7 h
  refine E.Ty.mk_agg Tryd.underlying31 (E.TyF.mk_cons ?_ (E.TyF.mk_cons ?_ (E.TyF.mk_cons ?_ E.TyF.mk_nil)))
  · simp only [E.Ty]; exact ⟨Tryd.underlying3, zs20 (by omega) (by omega)⟩
  · simp only [E.Ty]; exact ⟨Tryd.underlying3, zs20 (by omega) (by omega)⟩
  · simp only [E.Ty]; exact ⟨Tryd.underlying9, by unfold maxLen; omega⟩
def nmT : List ByteArray := [⟨#[120]⟩, ⟨#[112, 114, 105, 110, 116]⟩, ⟨#[110, 49]⟩, ⟨#[119, 104, 105, 108, 101]⟩]
def txT : List ByteArray := [⟨#[]⟩, ⟨#[97, 32, 98]⟩, ⟨#[47]⟩, ⟨#[35]⟩]
def mrkT : List ByteArray := [⟨#[123]⟩, ⟨#[125]⟩, ⟨#[40]⟩, ⟨#[41]⟩, ⟨#[60, 61]⟩, ⟨#[61, 61]⟩, ⟨#[61]⟩, ⟨#[60]⟩, ⟨#[38, 38]⟩, ⟨#[46]⟩, ⟨#[36]⟩, ⟨#[59]⟩, ⟨#[33]⟩]
def rxT : List ByteArray := [⟨#[97, 42, 98]⟩, ⟨#[120]⟩, ⟨#[94, 91, 97, 98, 93, 43, 36]⟩]
theorem nmT_ok : ∀ s ∈ nmT, tokOk 2 0 s = true := by decide
theorem txT_ok : ∀ s ∈ txT, tokOk 3 0 s = true := by decide
theorem zr22 : ∀ s ∈ mrkT, tokOk 5 0 s = true ∧ s ≠ ⟨#[126]⟩ := by decide
theorem rxT_ok : ∀ s ∈ rxT, tokOk 4 0 s = true := by decide
def free (t : T3) : Prop := tokOk t.1 t.2.1 t.2.2 = true ∧ t.1 ≠ 4 ∧ tilB t.1 t.2.2 = false ∧ t.2.2.size ≤ 7
theorem zw17 {t : T3} (h : free t) : good false t := ⟨h.1, fun h4 => absurd h4 h.2.1, fun _ _ => rfl⟩
theorem lt4 {k : Nat} (h : (k : Int) < 4) : k = 0 ∨ k = 1 ∨ k = 2 ∨ k = 3 := by omega
theorem zr11 {cs : List AC} (hc : Curs cs) : ∃ (t : T3) (cs' : List AC), Curs cs' ∧ free t ∧ Ctr Tryd.prog 42 [.c (.pt 0 0)] [cs] (.ag [.v (.int .i64 t.1), .v (.int .i64 t.2.1), .v (.string t.2.2)]) [cs'] := by
  have cc := zz1 hc
  obtain ⟨k, cs1, h1, hk, c1⟩ := zb4 hc 4 (by omega)
  have cc1 := zz1 h1
  rcases lt4 hk with rfl | rfl | rfl | rfl
  · obtain ⟨z, cs2, h2, hz, c2⟩ := zs17 h1 [0, 7, 42, 2147483647] (by simp)
    have cc2 := zz1 h2
    have hz2 : 0 ≤ z ∧ z ≤ 2147483647 := by
      simp only [List.mem_cons, List.not_mem_nil, or_false] at hz
      omega
    refine ⟨(1, z, ⟨#[]⟩), cs2, h2, ⟨?_, (fun h => by dsimp only at h; omega), ?_, Nat.zero_le _⟩, za2 Tryd.func42 rfl rfl ?_⟩
    · show tokOk 1 z ⟨#[]⟩ = true
      have : (⟨#[]⟩ : ByteArray).size = 0 := rfl
      simp [tokOk, hz2, this]
    · show tilB 1 ⟨#[]⟩ = false
      rfl
    repeat' (first | ((apply f_wo); first | ((apply f_mv); first | refine zv (v := .c _) ?_ | refine za ?_) | ((apply f_as); first | refine zt (v := .c _) ?_ | refine za ?_) | ((apply f_ca); first | refine zt3 0 (c1) ?_ (hl := zc3 (by rfl) cc) | refine ze9 0 [8] (c2) ?_ (hl := zc3 (by rfl) cc1)) | ((apply f_st); first | refine n_st ?_ | refine zr2 ?_) | ((apply zn1); first | refine zu ?_ | refine za ?_) | refine n_al ?_ | refine n_bs ?_ | refine za ?_) | ((apply f_w); first | refine zx ?_ | refine zd ?_) | refine zb fun C => ?_ | refine zj ?_ | refine zc ?_ | refine ze ?_ | refine zf ?_ | refine zp rfl ?_ | refine zq rfl ?_)
    refine zw ?_
    exact ret1 rfl (zm3 (zd2 rfl (zd2 rfl (zd2 rfl zm2)))) rfl cc2 (zf4 h2 hc) ⟨rfl, rfl⟩
  · obtain ⟨z, cs2, h2, hz, c2⟩ := zu6 h1 nmT (by simp [nmT])
    have cc2 := zz1 h2
    have hok := nmT_ok z hz
    have hsz : z.size ≤ 7 := by
      have h9 : ∀ s ∈ nmT, s.size ≤ 7 := by decide
      exact h9 z hz
    refine ⟨(2, 0, z), cs2, h2, ⟨hok, (fun h => by dsimp only at h; omega), rfl, hsz⟩, za2 Tryd.func42 rfl rfl ?_⟩
    repeat' (first | ((apply f_wo); first | ((apply f_mv); first | refine zv (v := .c _) ?_ | refine za ?_) | ((apply f_as); first | refine zt (v := .c _) ?_ | refine za ?_) | ((apply f_ca); first | refine zt3 0 (c1) ?_ (hl := zc3 (by rfl) cc) | refine ze9 0 [14] (c2) ?_ (hl := zc3 (by rfl) cc1)) | ((apply f_st); first | refine n_st ?_ | refine zr2 ?_) | ((apply zn1); first | refine zu ?_ | refine za ?_) | refine n_al ?_ | refine n_bs ?_ | refine za ?_) | ((apply f_w); first | refine zx ?_ | refine zd ?_) | refine zb fun C => ?_ | refine zj ?_ | refine zc ?_ | refine ze ?_ | refine zf ?_ | refine zp rfl ?_ | refine zq rfl ?_)
    refine zw ?_
    exact ret1 rfl (zm3 (zd2 rfl (zd2 rfl (zd2 rfl zm2)))) rfl cc2 (zf4 h2 hc) ⟨rfl, rfl⟩
  · obtain ⟨z, cs2, h2, hz, c2⟩ := zu6 h1 txT (by simp [txT])
    have cc2 := zz1 h2
    have hok := txT_ok z hz
    have hsz : z.size ≤ 7 := by
      have h9 : ∀ s ∈ txT, s.size ≤ 7 := by decide
      exact h9 z hz
    refine ⟨(3, 0, z), cs2, h2, ⟨hok, (fun h => by dsimp only at h; omega), rfl, hsz⟩, za2 Tryd.func42 rfl rfl ?_⟩
    repeat' (first | ((apply f_wo); first | ((apply f_mv); first | refine zv (v := .c _) ?_ | refine za ?_) | ((apply f_as); first | refine zt (v := .c _) ?_ | refine za ?_) | ((apply f_ca); first | refine zt3 0 (c1) ?_ (hl := zc3 (by rfl) cc) | refine ze9 0 [20] (c2) ?_ (hl := zc3 (by rfl) cc1)) | ((apply f_st); first | refine n_st ?_ | refine zr2 ?_) | ((apply zn1); first | refine zu ?_ | refine za ?_) | refine n_al ?_ | refine n_bs ?_ | refine za ?_) | ((apply f_w); first | refine zx ?_ | refine zd ?_) | refine zb fun C => ?_ | refine zj ?_ | refine zc ?_ | refine ze ?_ | refine zf ?_ | refine zp rfl ?_ | refine zq rfl ?_)
    refine zw ?_
    exact ret1 rfl (zm3 (zd2 rfl (zd2 rfl (zd2 rfl zm2)))) rfl cc2 (zf4 h2 hc) ⟨rfl, rfl⟩
  · obtain ⟨z, cs2, h2, hz, c2⟩ := zu6 h1 mrkT (by simp [mrkT])
    have cc2 := zz1 h2
    obtain ⟨hok, hnt⟩ := zr22 z hz
    have hsz : z.size ≤ 7 := by
      have h9 : ∀ s ∈ mrkT, s.size ≤ 7 := by decide
      exact h9 z hz
    refine ⟨(5, 0, z), cs2, h2, ⟨hok, (fun h => by dsimp only at h; omega), by simp [tilB, hnt], hsz⟩, za2 Tryd.func42 rfl rfl ?_⟩
    repeat' (first | ((apply f_wo); first | ((apply f_mv); first | refine zv (v := .c _) ?_ | refine za ?_) | ((apply f_as); first | refine zt (v := .c _) ?_ | refine za ?_) | ((apply f_ca); first | refine zt3 0 (c1) ?_ (hl := zc3 (by rfl) cc) | refine ze9 0 [24] (c2) ?_ (hl := zc3 (by rfl) cc1)) | ((apply f_st); first | refine n_st ?_ | refine zr2 ?_) | ((apply zn1); first | refine zu ?_ | refine za ?_) | refine n_al ?_ | refine n_bs ?_ | refine za ?_) | ((apply f_w); first | refine zx ?_ | refine zd ?_) | refine zb fun C => ?_ | refine zj ?_ | refine zc ?_ | refine ze ?_ | refine zf ?_ | refine zp rfl ?_ | refine zq rfl ?_)
    refine zw ?_
    exact ret1 rfl (zm3 (zd2 rfl (zd2 rfl (zd2 rfl zm2)))) rfl cc2 (zf4 h2 hc) ⟨rfl, rfl⟩
def Rnd (c : List AC) (x : List T3) (c' : List AC) : Prop :=
  (∃ c1, cloL c1 = true ∧ Ctr Tryd.prog 39 [.c (.pt 0 0), .c (.v (.int .i64 6))] [c] (.c (.v (.bool true))) [c1] ∧ ∃ z, z ∈ rxT ∧ x = [(5, 0, ⟨#[126]⟩), (4, 0, z)] ∧ Ctr Tryd.prog 38 [.c (.pt 0 0), .c (.ro (strL rxT).length 1 (acL (strL rxT)))] [c1] (.c (.v (.string z))) [c'])
  ∨ (∃ c1, cloL c1 = true ∧ Ctr Tryd.prog 39 [.c (.pt 0 0), .c (.v (.int .i64 6))] [c] (.c (.v (.bool false))) [c1] ∧ ∃ t : T3, free t ∧ x = [t] ∧ Ctr Tryd.prog 42 [.c (.pt 0 0)] [c1] (.ag [.v (.int .i64 t.1), .v (.int .i64 t.2.1), .v (.string t.2.2)]) [c'])
theorem zn19 (c : List AC) (hc : Curs c) : ∃ (x : List T3) (c' : List AC), Curs c' ∧ Rnd c x c' := by
  obtain ⟨b, c1, h1, k1⟩ := zh7 hc 6 (by omega)
  cases b with
  | true =>
    obtain ⟨z, c2, h2, hz, k2⟩ := zu6 h1 rxT (by simp [rxT])
    exact ⟨_, c2, h2, .inl ⟨c1, zz1 h1, k1, z, hz, rfl, k2⟩⟩
  | false =>
    obtain ⟨t, c2, h2, ht, k2⟩ := zr11 h1
    exact ⟨_, c2, h2, .inr ⟨c1, zz1 h1, k1, t, ht, rfl, k2⟩⟩
theorem rnd_ch {c c' : List AC} {x : List T3} (h : Rnd c x c') : ch false x false ∧ x.length ≤ 2 ∧ ∀ t ∈ x, t.2.2.size ≤ 7 := by
  rcases h with ⟨c1, -, -, z, hz, rfl, -⟩ | ⟨c1, -, -, t, ht, rfl, -⟩
  · have hok := rxT_ok z hz
    have hsz : z.size ≤ 7 := by
      have h9 : ∀ s ∈ rxT, s.size ≤ 7 := by decide
      exact h9 z hz
    refine ⟨⟨⟨by decide, fun h => absurd h (by decide), fun _ h => absurd h (by decide)⟩, ⟨⟨hok, fun _ => by decide, fun h => by dsimp only at h; omega⟩, rfl⟩⟩, Nat.le_refl _, fun t ht => ?_⟩
    simp only [List.mem_cons, List.not_mem_nil, or_false] at ht
    rcases ht with rfl | rfl
    · show (1 : Nat) ≤ 7; omega
    · exact hsz
  · refine ⟨⟨zw17 ht, ht.2.2.1⟩, by show 1 ≤ 2; omega, fun u hu => ?_⟩
    rw [List.mem_singleton.1 hu]; exact ht.2.2.2
theorem zt20 : ∀ {l m : List T3} {a b c : Bool}, ch a l b → ch b m c → ch a (l ++ m) c
  | [], m, a, b, c, h, g => by have : a = b := h; subst this; exact g
  | t :: l, m, a, b, c, h, g => ⟨h.1, zt20 (l := l) h.2 g⟩
end Go.Proofs.YtnlgmojciplnoaaDoor
-- MVP
namespace Go.Proofs.YtnlgmojciplnoaaDoor
open Go.RowKit
set_option maxRecDepth 100000
set_option maxHeartbeats 4000000 in
theorem zu14 {cs : List AC} (hc : Curs cs) (m : Int) (hm : 0 < m) (hm2 : m ≤ 10) : ∃ (l : List T3) (cs' : List AC), Curs cs' ∧ ch false l false ∧ l.length ≤ 20 ∧ (∀ t ∈ l, t.2.2.size ≤ 7) ∧ Ctr Tryd.prog 21 [.c (.pt 0 0), .c (.v (.int .i64 m))] [cs] (.c (.ow 31 (l.map T3.E).length 3 (owL (l.map T3.E)))) [cs'] := by
  have cc := zz1 hc
  obtain ⟨n, cs1, h1, hn, c1⟩ := zb4 hc m hm
  have cc1 := zz1 h1
  obtain ⟨S, X, hS0, hS⟩ := zv5 (P := Curs) (R := Rnd) zn19 h1
  subst hS0
  obtain ⟨A, hA0, hAs⟩ : ∃ A : Nat → List T3, A 0 = [] ∧ ∀ k, A (k + 1) = A k ++ X k := ⟨fun k => (List.range k).flatMap X, rfl, fun k => by show (List.range (k + 1)).flatMap X = _; rw [List.range_succ, List.flatMap_append]; simp⟩
  have hA : ∀ k, ch false (A k) false ∧ (A k).length ≤ 2 * k ∧ ∀ t ∈ A k, t.2.2.size ≤ 7 := fun k => by
    induction k with
    | zero => rw [hA0]; exact ⟨rfl, Nat.le_refl _, fun _ h => absurd h List.not_mem_nil⟩
    | succ k ih =>
      obtain ⟨r1, r2, r3⟩ := rnd_ch (hS k).2
      rw [hAs]
      refine ⟨zt20 ih.1 r1, by rw [List.length_append]; omega, fun t ht => ?_⟩
      rcases List.mem_append.1 ht with ht | ht
      · exact ih.2.2 t ht
      · exact r3 t ht
  refine ⟨A n, S n, (hS n).1, (hA n).1, by have := (hA n).2.1; omega, (hA n).2.2, ?_⟩
  refine za2 Tryd.func21 rfl rfl ?_
  repeat' (first | ((apply f_wo); first | ((apply f_mv); first | refine zv (v := .c _) ?_ | refine za ?_) | ((apply f_as); first | refine zt (v := .c _) ?_ | refine za ?_) | ((apply f_ca); first | refine zt3 0 (c1) ?_ (hl := zc3 (by rfl) cc)) | ((apply f_bi); first | refine zd3 ?_ | refine zd3 (hnu := zl _) ?_ | refine zh2 ?_ | refine zh2 (hnu := zl _) ?_ | refine za ?_) | ((apply zh3); first | refine zo1 ?_ | refine za ?_) | ((apply f_bb); first | refine zw1 ?_ | refine zx1 ?_ | refine za ?_) | refine n_bs ?_ | refine za ?_) | ((apply f_w); first | refine zx ?_ | refine zd ?_) | refine zb fun C => ?_ | refine zj ?_ | refine zc ?_ | refine ze ?_ | refine zf ?_)
  refine zb3 (fun k : Nat => ⟨tmsF [(0, .c (.pt 0 0)), (5, .c (.sl 7 ((A k).map T3.E).length)), (6, .c (.v (.int .i64 ((n : Int) - (k : Int)))))], hpsF [(0, 0, ⟨0, 0, 0, true, S k⟩), (7, 7, ⟨31, 3, ((A k).map T3.E).length, false, owL ((A k).map T3.E)⟩)], 1, [0, 7], 31⟩)
    (fun N k => k + N = n) n 0 (by omega) ?_ ?_
  · have hcl := zz1 (hS 0).1
    rw [hA0, show (n : Int) - ((0 : Nat) : Int) = (n : Int) by omega]
    (refine ze2 _ _ rfl rfl ?_ ?_ <;> (repeat' (first | exact TmOk.nil | exact RwOk.nil | refine TmOk.cons ?_ ?_ | refine RwOk.cons ?_ ?_ | rfl | exact ze1 rfl (by assumption) | (refine rnV_id' rfl ?_; (first | rfl | (simp [cloV, cloL, clo, zn, zm, zo, zk, zi]; done))) | (refine zk2 ?_; first | rfl | omega | (rw [zp1 (by omega) (by omega)]; omega)) | (refine ze1 rfl ?_; (first | rfl | (simp [cloV, cloL, clo, zn, zm, zo, zk, zi]; done))) | exact zg3 rfl rfl | (refine zl2 (by rfl) (by rfl) ?_ ?_ <;> (first | rfl | (simp [cloV, cloL, clo, zn, zm, zo, zk, zi]; done))) | (refine rw_rn' rfl rfl ?_; simp; done))))
  rintro N k hN
  try dsimp only
  repeat' (first | ((apply f_wo); first | ((apply f_mv); first | refine zv (v := .c _) ?_ | refine za ?_) | ((apply f_as); first | refine zt (v := .c _) ?_ | refine za ?_) | ((apply f_bi); first | refine zd3 ?_ | refine zd3 (hnu := zl _) ?_ | refine zh2 ?_ | refine zh2 (hnu := zl _) ?_ | refine za ?_) | ((apply zh3); first | refine zo1 ?_ | refine za ?_) | ((apply f_bb); first | refine zw1 ?_ | refine zx1 ?_ | refine za ?_) | refine n_bs ?_ | refine za ?_) | ((apply f_w); first | refine zx ?_ | refine zd ?_) | refine zb fun C => ?_ | refine zj ?_ | refine zc ?_ | refine ze ?_ | refine zf ?_)
  refine zr (by rfl) (fun h1 => ?_) fun h1 => ?_
  · have hk' : k < n := by have h1' : (n : Int) - (k : Int) > 0 := of_decide_eq_true h1; omega
    obtain ⟨g1, g4⟩ := hS k
    have cc := zz1 g1
    have hlen : ((A k).map T3.E).length ≤ 2 * k := by rw [List.length_map]; exact (hA k).2.1
    have hn10 : n ≤ 10 := by omega
    have hcl := zz1 (hS (k + 1)).1
    have hs1 : (n : Int) - (k : Int) - 1 = (n : Int) - ((k + 1 : Nat) : Int) := by omega
    rcases g4 with ⟨c2, q1, q2, z, hz, hx, q3⟩ | ⟨c2, q1, q2, t, ht, hx, q3⟩
    · repeat' (first | ((apply f_wo); first | ((apply f_mv); first | refine zv (v := .c _) ?_ | refine za ?_) | ((apply f_as); first | refine zt (v := .c _) ?_ | refine za ?_) | ((apply f_ca); first | refine zt3 0 (q2) ?_ (hl := zc3 (by rfl) cc) | refine ze9 0 [20] (q3) ?_ (hl := zc3 (by rfl) q1)) | ((apply f_bi); first | refine zd3 ?_ | refine zd3 (hnu := zl _) ?_ | refine zh2 ?_ | refine zh2 (hnu := zl _) ?_ | refine za ?_) | ((apply zh3); first | refine zo1 ?_ | refine za ?_) | ((apply f_bb); first | refine zw1 ?_ | refine zx1 ?_ | refine za ?_) | refine n_bs ?_ | refine za ?_) | ((apply f_w); first | refine zx ?_ | refine zd ?_) | refine zb fun C => ?_ | refine zj ?_ | refine zc ?_ | refine ze ?_ | refine zf ?_ | refine zp rfl ?_ | refine zq rfl ?_)
      refine ⟨N - 1, k + 1, by omega, by omega, ?_⟩
      have hmap := congrArg (List.map T3.E) (hAs k)
      rw [hx, List.map_append] at hmap
      rw [hmap, ← hs1, List.length_append]
      refine (zb6 (fun j => if j = 7 then 24 else j) _ _ rfl rfl ?_ ?_) <;> (repeat' (first | exact TmOk.nil | exact RwOk.nil | refine TmOk.cons ?_ ?_ | refine RwOk.cons ?_ ?_ | rfl | exact ze1 rfl (by assumption) | (refine rnV_id' rfl ?_; (first | rfl | (simp [cloV, cloL, clo, zn, zm, zo, zk, zi]; done))) | (refine zk2 ?_; first | rfl | omega | (rw [zp1 (by omega) (by omega)]; omega)) | (refine ze1 rfl ?_; (first | rfl | (simp [cloV, cloL, clo, zn, zm, zo, zk, zi]; done))) | exact zg3 rfl rfl | (refine zl2 (by rfl) (by rfl) ?_ ?_ <;> (first | rfl | (simp [cloV, cloL, clo, zn, zm, zo, zk, zi]; done))) | (refine rw_rn' rfl rfl ?_; simp; done)))
      exact zg12 (r := ⟨31, 3, ((A k).map T3.E).length + 2, false, owL ((A k).map T3.E) ++ [.v (.int .i64 5), .v (.int .i64 0), .v (.string ⟨#[126]⟩), .v (.int .i64 4), .v (.int .i64 0), .v (.string z)]⟩) rfl (by rw [zk7]; rfl) (zk _)
    · repeat' (first | ((apply f_wo); first | ((apply f_mv); first | refine zv (v := .c _) ?_ | refine za ?_) | ((apply f_as); first | refine zt (v := .c _) ?_ | refine za ?_) | ((apply f_ca); first | refine zt3 0 (q2) ?_ (hl := zc3 (by rfl) cc) | refine zt3 0 (q3) ?_ (hl := zc3 (by rfl) q1)) | ((apply f_bi); first | refine zd3 ?_ | refine zd3 (hnu := zl _) ?_ | refine zh2 ?_ | refine zh2 (hnu := zl _) ?_ | refine za ?_) | ((apply zh3); first | refine zo1 ?_ | refine za ?_) | ((apply f_bb); first | refine zw1 ?_ | refine zx1 ?_ | refine za ?_) | refine n_bs ?_ | refine za ?_) | ((apply f_w); first | refine zx ?_ | refine zd ?_) | refine zb fun C => ?_ | refine zj ?_ | refine zc ?_ | refine ze ?_ | refine zf ?_ | refine zp rfl ?_ | refine zq rfl ?_)
      refine ⟨N - 1, k + 1, by omega, by omega, ?_⟩
      have hmap := congrArg (List.map T3.E) (hAs k)
      rw [hx, List.map_append] at hmap
      rw [hmap, ← hs1, List.length_append]
      refine (zb6 (fun j => if j = 7 then 29 else j) _ _ rfl rfl ?_ ?_) <;> (repeat' (first | exact TmOk.nil | exact RwOk.nil | refine TmOk.cons ?_ ?_ | refine RwOk.cons ?_ ?_ | rfl | exact ze1 rfl (by assumption) | (refine rnV_id' rfl ?_; (first | rfl | (simp [cloV, cloL, clo, zn, zm, zo, zk, zi]; done))) | (refine zk2 ?_; first | rfl | omega | (rw [zp1 (by omega) (by omega)]; omega)) | (refine ze1 rfl ?_; (first | rfl | (simp [cloV, cloL, clo, zn, zm, zo, zk, zi]; done))) | exact zg3 rfl rfl | (refine zl2 (by rfl) (by rfl) ?_ ?_ <;> (first | rfl | (simp [cloV, cloL, clo, zn, zm, zo, zk, zi]; done))) | (refine rw_rn' rfl rfl ?_; simp; done)))
      exact zg12 (r := ⟨31, 3, ((A k).map T3.E).length + 1, false, owL ((A k).map T3.E) ++ [.v (.int .i64 t.1), .v (.int .i64 t.2.1), .v (.string t.2.2)]⟩) rfl (by rw [zk7]; rfl) (zk _)
  · have hk' : ¬ (n : Int) - (k : Int) > 0 := of_decide_eq_false h1
    obtain rfl : k = n := by omega
    repeat' (first | ((apply f_wo); first | ((apply f_mv); first | refine zv (v := .c _) ?_ | refine za ?_) | ((apply f_as); first | refine zt (v := .c _) ?_ | refine za ?_) | ((apply f_bi); first | refine zd3 ?_ | refine zd3 (hnu := zl _) ?_ | refine zh2 ?_ | refine zh2 (hnu := zl _) ?_ | refine za ?_) | ((apply zh3); first | refine zo1 ?_ | refine za ?_) | ((apply f_bb); first | refine zw1 ?_ | refine zx1 ?_ | refine za ?_) | refine n_bs ?_ | refine za ?_) | ((apply f_w); first | refine zx ?_ | refine zd ?_) | refine zb fun C => ?_ | refine zj ?_ | refine zc ?_ | refine ze ?_ | refine zf ?_ | refine zp rfl ?_ | refine zq rfl ?_)
    refine zw ?_
    exact ret1 rfl (zc11 (zs7 rfl rfl rfl (zk _) zm2)) rfl (zz1 (hS k).1) (zf4 (hS k).1 hc) ⟨rfl, rfl⟩
end Go.Proofs.YtnlgmojciplnoaaDoor
