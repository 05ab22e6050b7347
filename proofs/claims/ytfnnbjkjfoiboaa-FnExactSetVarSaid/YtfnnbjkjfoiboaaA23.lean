/- The abstract machine, twenty-three: shorter rules; ends of bodies. -/
import Derived.Test.YtfnnbjkjfoiboaaA22
namespace Go.Proofs.Ytfnnbjkjfoiboaa
open Go.RowKit

section
variable {P : Program} {hp hp' : Nat → Option Row}
theorem clL_nil : clL hp [] = some ([], hp) := rfl
theorem clL_v {c : AC} {r r' : List AC} (h : clo c = true) (k : clL hp r = some (r', hp')) : clL hp (c :: r) = some (c :: r', hp') := by
  have : clC hp c = some (c, hp) := by
    unfold clC
    split
    · simp [clo] at h
    · exact if_pos h
  simp only [clL, this, Option.bind_some, k, Option.map_some]
theorem clL_sl {i n : Nat} {rw : Row} {r r' : List AC} (hr : hp i = some rw) (hb : rw.box = false) (hn : rw.n = n) (hc : cloL rw.cs = true) (k : clL (upd hp i none) r = some (r', hp')) : clL hp (.sl i n :: r) = some (.ow rw.T n rw.k rw.cs :: r', hp') := by
  have : clC hp (.sl i n) = some (.ow rw.T n rw.k rw.cs, upd hp i none) := by
    unfold clC
    simp only [hr]
    exact if_pos ⟨hb, hn, hc⟩
  simp only [clL, this, Option.bind_some, k, Option.map_some]
theorem clV_ag {l l' : List AC} (h : clL hp l = some (l', hp')) : clV hp (.ag l) = some (.ag l', hp') := by simp only [clV, h, Option.map_some]
theorem clV_c {c c' : AC} (h : clL hp [c] = some ([c'], hp')) : clV hp (.c c) = some (.c c', hp') := by
  simp only [clL, Option.bind_eq_some_iff, Option.map_eq_some_iff] at h
  obtain ⟨⟨q, hp1⟩, h1, ⟨r, hp2⟩, h2, h3⟩ := h
  simp only [Option.some.injEq, Prod.mk.injEq] at h2
  obtain ⟨rfl, rfl⟩ := h2
  simp only [Prod.mk.injEq, List.cons.injEq, and_true] at h3
  obtain ⟨rfl, rfl⟩ := h3
  simp only [clV, h1, Option.map_some]
theorem clVL_nil : clVL hp [] = some ([], hp) := rfl
theorem clVL_cons {x x' : AV} {r r' : List AV} {hp1 : Nat → Option Row} (h : clV hp x = some (x', hp1)) (k : clVL hp1 r = some (r', hp')) : clVL hp (x :: r) = some (x' :: r', hp') := by simp only [clVL, h, Option.bind_some, k, Option.map_some]
theorem clV_tu {l l' : List AV} (h : clVL hp l = some (l', hp')) : clV hp (.tu l) = some (.tu l', hp') := by simp only [clV, h, Option.map_some]
theorem ret0 {fn : Func} {Post : AV → List (List AC) → Prop} {σ : AS} {l : List AV} {x : AV} (h1 : resL P σ.hp σ.tm fn.results.toList = some l) (h2 : clV σ.hp (joinAV l) = some (x, hp')) (h3 : Post x []) : retQ P fn [] Post σ :=
  ⟨l, x, hp', [], h1, h2, rfl, fun i cs h => by simp at h, h3⟩
theorem ret1 {fn : Func} {Post : AV → List (List AC) → Prop} {σ : AS} {l : List AV} {x : AV} {p : List AC} {rw : Row} (h1 : resL P σ.hp σ.tm fn.results.toList = some l) (h2 : clV σ.hp (joinAV l) = some (x, hp')) (hr : hp' 0 = some rw) (hc : cloL rw.cs = true) (hl : rw.cs.length = p.length) (h3 : Post x [rw.cs]) : retQ P fn [p] Post σ :=
  ⟨l, x, hp', [rw.cs], h1, h2, rfl, fun i cs h => by
    rcases i with _ | i
    · simp only [List.getElem?_cons_zero, Option.some.injEq] at h
      subst h
      exact ⟨hc, ⟨rw, hr, rfl⟩, p, rfl, hl⟩
    · simp at h, h3⟩
theorem ctr_of {f : FuncId} {fn : Func} {c : Code} {ins : List AV} {pars : List (List AC)} {res : AV} {rows : List (List AC)} (hf : P.funcs[f]? = some fn) (hb : fn.body = some c) (hn : (fn.name == "runtime.NumGoroutine") = false)
    (h : AWp P c (bodyQ P fn pars fun r c => r = res ∧ c = rows) (σ0 ins pars fn.ntmps)) : Ctr P f ins pars res rows :=
  ⟨by unfold entB; rw [hf]; simp [hn, hb], fun_of_body hf hb h⟩
end
section
variable {P : Program} {ops : Array Oper} {Q : Exit → Act → World → Prop} {C : Ctx} {H : List (Nat × Oper × Inf)} {i : Nat} {r : List Nat} {o : Oper} {dr : Bool}
variable {tm : Nat → AV} {hp : Nat → Option Row} {gn L : Nat} {us : List Nat} {x : AV}
theorem v_gr {t : Nat} {rw : Row} (hop : ops[i]? = some o) (hd : o.dst = some t) (ht : Nat.blt t L = true) (hg : gw ops tm o = some true) (hf : (Nat.ble gn t && !us.contains t) = true) (he : EffD P o (AS.ev ⟨tm, hp, gn, us, L⟩) hp t = some (x, .gr t rw))
    (hc : chk dr ops i o ⟨fpO (AS.ev ⟨tm, hp, gn, us, L⟩) o, [(t, some rw)], [t], x⟩ H = true) (h : Walk P ops Q C dr (keepH dr (i, o, ⟨fpO (AS.ev ⟨tm, hp, gn, us, L⟩) o, [(t, some rw)], [t], x⟩) H) r ⟨upd tm t x, upd hp t (some rw), gn, t :: us, L⟩) : Walk P ops Q C dr H (i :: r) ⟨tm, hp, gn, us, L⟩ := w_gr t hop hd ht hg hf he hc h
theorem v_mv {t : Nat} {j : Nat} {rw : Row} (hop : ops[i]? = some o) (hd : o.dst = some t) (ht : Nat.blt t L = true) (hg : gw ops tm o = some true) (hf : (Nat.ble gn t && !us.contains t) = true) (he : EffD P o (AS.ev ⟨tm, hp, gn, us, L⟩) hp t = some (x, .mv j t rw))
    (hc : chk dr ops i o ⟨fpO (AS.ev ⟨tm, hp, gn, us, L⟩) o, [(j, none), (t, some rw)], [t], x⟩ H = true) (h : Walk P ops Q C dr (keepH dr (i, o, ⟨fpO (AS.ev ⟨tm, hp, gn, us, L⟩) o, [(j, none), (t, some rw)], [t], x⟩) H) r ⟨upd tm t x, upd (upd hp j none) t (some rw), gn, t :: us, L⟩) : Walk P ops Q C dr H (i :: r) ⟨tm, hp, gn, us, L⟩ := w_mv t hop hd ht hg hf he hc h
theorem v_app {t j n m k nm : Nat} {rw : Row} {e T T2 : TypeId} {xo yo : Operand} {ys zs : List AC} (hop : ops[i]? = some o) (ho : o.op = .call ⟨.builtin .append, #[xo, yo], #[T, T2]⟩) (hd : o.dst = some t) (ht : Nat.blt t L = true) (hg : gw ops tm o = some true) (hf : (Nat.ble gn t && !us.contains t) = true)
    (hx : AS.ev ⟨tm, hp, gn, us, L⟩ xo = .c (.sl j n)) (hr : hp j = some rw) (hT : appB P T T2 = some (e, k)) (hy : srcOf hp k (AS.ev ⟨tm, hp, gn, us, L⟩ yo) = some (m, ys)) (hnu : ys.all noUn = true) (hr1 : rw.T = e) (hr2 : rw.k = k) (hr3 : rw.n = n) (hr4 : rw.box = false) (hsz : n + m ≤ 4294967296) (hnm : n + m = nm) (hz : rw.cs ++ ys = zs)
    (hc : chk dr ops i o ⟨fpO (AS.ev ⟨tm, hp, gn, us, L⟩) o, [(j, none), (t, some ⟨e, k, nm, false, zs⟩)], [t], .c (.sl t nm)⟩ H = true)
    (h : Walk P ops Q C dr (keepH dr (i, o, ⟨fpO (AS.ev ⟨tm, hp, gn, us, L⟩) o, [(j, none), (t, some ⟨e, k, nm, false, zs⟩)], [t], .c (.sl t nm)⟩) H) r ⟨upd tm t (.c (.sl t nm)), upd (upd hp j none) t (some ⟨e, k, nm, false, zs⟩), gn, t :: us, L⟩) : Walk P ops Q C dr H (i :: r) ⟨tm, hp, gn, us, L⟩ := by
  subst hnm hz
  exact w_app t hop ho hd ht hg hf hx hr hT hy hnu hr1 hr2 hr3 hr4 hsz hc h
theorem v_app0 {t m k : Nat} {e T T2 : TypeId} {xo yo : Operand} {ys : List AC} (hop : ops[i]? = some o) (ho : o.op = .call ⟨.builtin .append, #[xo, yo], #[T, T2]⟩) (hd : o.dst = some t) (ht : Nat.blt t L = true) (hg : gw ops tm o = some true) (hf : (Nat.ble gn t && !us.contains t) = true)
    (hx : AS.ev ⟨tm, hp, gn, us, L⟩ xo = .c (.v (.slice none 0 0))) (hT : appB P T T2 = some (e, k)) (hy : srcOf hp k (AS.ev ⟨tm, hp, gn, us, L⟩ yo) = some (m, ys)) (hnu : ys.all noUn = true) (hsz : m ≤ 4294967296)
    (hc : chk dr ops i o ⟨fpO (AS.ev ⟨tm, hp, gn, us, L⟩) o, [(t, some ⟨e, k, m, false, ys⟩)], [t], .c (.sl t m)⟩ H = true)
    (h : Walk P ops Q C dr (keepH dr (i, o, ⟨fpO (AS.ev ⟨tm, hp, gn, us, L⟩) o, [(t, some ⟨e, k, m, false, ys⟩)], [t], .c (.sl t m)⟩) H) r ⟨upd tm t (.c (.sl t m)), upd hp t (some ⟨e, k, m, false, ys⟩), gn, t :: us, L⟩) : Walk P ops Q C dr H (i :: r) ⟨tm, hp, gn, us, L⟩ :=
  w_app0 t hop ho hd ht hg hf hx hT hy hnu hsz hc h
end
theorem awp_region0 {Q : Exit → AS → Prop} {P : Program} {id : Nat} {ops : Array Oper} {σ : AS} (h : ∀ C, Walk P ops (fun e a w => ∃ σ', Q e σ' ∧ Sim C σ' a w) C false [] (List.range ops.size) σ) : AWp P (.region id ops false) Q σ := awp_region (fun h => by cases h) h
theorem awp_region1 {Q : Exit → AS → Prop} {P : Program} {id : Nat} {ops : Array Oper} {σ : AS} (h1 : P.follows .mixedOrders = true) (h2 : backB .any ops = true) (h : ∀ C, Walk P ops (fun e a w => ∃ σ', Q e σ' ∧ Sim C σ' a w) C true [] (List.range ops.size) σ) : AWp P (.region id ops true) Q σ := awp_region (fun _ => ⟨h1, h2⟩) h
/-- The parts of a literal, one behind the other. -/
def catP (k : Nat) : Nat → List (Nat × AV) → Option (List AC)
  | _, [] => some []
  | i, (j, x) :: r => match x.cells, catP k (i + 1) r with
    | some xs, some ys => if (Nat.beq i j && Nat.beq xs.length k) = true then some (xs ++ ys) else none
    | _, _ => none
theorem fill_cat {k : Nat} : ∀ {parts : List (Nat × AV)} {i : Nat} {pre rest ys : List AC}, catP k i parts = some ys → pre.length = i * k → rest.length = parts.length * k → aFill (fun j => some (j * k, k)) (pre ++ rest) parts = some (pre ++ ys)
  | [], i, pre, rest, ys, h, hp, hr => by
    simp only [catP, Option.some.injEq] at h
    subst h
    have : rest = [] := List.eq_nil_of_length_eq_zero (by simpa using hr)
    subst this
    rfl
  | (j, x) :: r, i, pre, rest, ys, h, hp, hr => by
    simp only [catP] at h
    split at h
    · rename_i xs zs hx hz
      split at h
      · rename_i hc
        simp only [Bool.and_eq_true, Nat.beq_eq] at hc
        obtain ⟨rfl, hl⟩ := hc
        injection h with h
        subst h
        simp only [aFill, hx]
        have hrl : rest.length = k + r.length * k := by rw [hr, List.length_cons, Nat.add_mul]; omega
        rw [if_pos ⟨hl, by rw [List.length_append, hp]; omega⟩]
        have e : spl (pre ++ rest) (i * k) xs = (pre ++ xs) ++ rest.drop k := by
          unfold spl
          rw [← hp, List.take_left, hl, List.drop_append, List.drop_eq_nil_of_le (by omega), List.nil_append, Nat.add_sub_cancel_left]
        rw [e, fill_cat hz (by rw [List.length_append, hp, hl, Nat.add_mul]; omega) (by rw [List.length_drop, hrl]; omega), List.append_assoc]
      · cases h
    · cases h
def sliT (P : Program) (T : TypeId) : Option (TypeId × Nat) :=
  match P.underlying T with
  | some (.slice e) => match P.info? e with | some i => if i.zero.isSome = true then some (e, i.size) else none | none => none
  | _ => none
section
variable {P : Program} {ops : Array Oper} {Q : Exit → Act → World → Prop} {C : Ctx} {H : List (Nat × Oper × Inf)} {i : Nat} {r : List Nat} {o : Oper} {dr : Bool}
variable {tm : Nat → AV} {hp : Nat → Option Row} {gn L : Nat} {us : List Nat} {x : AV}
/-- A literal of a slice. -/
theorem v_bs {t n k : Nat} {T e : TypeId} {parts : Array (Nat × Operand)} {zs : List AC} (hop : ops[i]? = some o) (ho : o.op = .buildSlice T n parts) (hd : o.dst = some t) (ht : Nat.blt t L = true) (hg : gw ops tm o = some true) (hf : (Nat.ble gn t && !us.contains t) = true)
    (hT : sliT P T = some (e, k)) (hz : catP k 0 (parts.toList.map fun p => (p.1, AS.ev ⟨tm, hp, gn, us, L⟩ p.2)) = some zs) (hn : n = parts.toList.length) (hb : (Nat.ble (n * k) 16777216 && Nat.ble n 16777216) = true)
    (hc : chk dr ops i o ⟨fpO (AS.ev ⟨tm, hp, gn, us, L⟩) o, [(t, some ⟨e, k, n, false, zs⟩)], [t], .c (.sl t n)⟩ H = true)
    (h : Walk P ops Q C dr (keepH dr (i, o, ⟨fpO (AS.ev ⟨tm, hp, gn, us, L⟩) o, [(t, some ⟨e, k, n, false, zs⟩)], [t], .c (.sl t n)⟩) H) r ⟨upd tm t (.c (.sl t n)), upd hp t (some ⟨e, k, n, false, zs⟩), gn, t :: us, L⟩) : Walk P ops Q C dr H (i :: r) ⟨tm, hp, gn, us, L⟩ := by
  refine w_gr t hop hd ht hg hf ?_ hc h
  unfold sliT at hT
  split at hT
  · rename_i e' h1
    split at hT
    · rename_i inf h2
      split at hT
      · rename_i h3
        obtain ⟨z, hz'⟩ := Option.isSome_iff_exists.1 h3
        injection hT with hT
        injection hT with e1 e2
        subst e1 e2
        unfold EffD
        rw [ho]
        simp only []
        unfold dBuildSlice
        simp only [h1, h2, hz']
        simp only [Bool.and_eq_true, Nat.ble_eq] at hb
        have := fill_cat (pre := []) (rest := (madeCells z.cells (n * inf.size)).toList.map ofC) hz (by simp) (by rw [List.length_map, Array.length_toList, size_madeCells, hn, List.length_map])
        rw [List.nil_append, List.nil_append] at this
        rw [this]
        exact if_pos hb
      · cases hT
    · cases hT
  · cases hT
end
/-- The first place where p holds, or -1. -/
def idxF (p : E → Bool) (l : List E) : Int := match l.findIdx? p with | some i => i | none => -1
theorem idxF_at {p : E → Bool} {l : List E} {k : Nat} {x : E} (h : ∀ j y, j < k → l[j]? = some y → p y = false) (hx : l[k]? = some x) (hp : p x = true) : idxF p l = k := by
  have : l.findIdx? p = some k := by
    rw [List.findIdx?_eq_some_iff_getElem]
    obtain ⟨hk, hx⟩ := List.getElem?_eq_some_iff.1 hx
    exact ⟨hk, by rw [hx]; exact hp, fun j hj => by simp [h j l[j] hj (List.getElem?_eq_getElem (by omega))]⟩
  unfold idxF; rw [this]
theorem idxF_none {p : E → Bool} {l : List E} (h : ∀ j y, j < l.length → l[j]? = some y → p y = false) : idxF p l = -1 := by
  have : l.findIdx? p = none := by
    rw [List.findIdx?_eq_none_iff]
    intro x hx
    obtain ⟨j, hj, rfl⟩ := List.mem_iff_getElem.1 hx
    exact h j _ hj (List.getElem?_eq_getElem hj)
  unfold idxF; rw [this]
theorem idxF_some {p : E → Bool} {l : List E} {k : Nat} (h : idxF p l = k) : ∃ x, l[k]? = some x ∧ p x = true := by
  unfold idxF at h
  split at h
  · rename_i i hi
    rw [List.findIdx?_eq_some_iff_getElem] at hi
    obtain ⟨h1, h2, _⟩ := hi
    obtain rfl : i = k := by omega
    exact ⟨_, List.getElem?_eq_getElem h1, h2⟩
  · omega
theorem idxF_cases (p : E → Bool) (l : List E) : idxF p l = -1 ∨ ∃ k : Nat, idxF p l = k ∧ k < l.length := by
  unfold idxF
  split
  · rename_i i hi
    rw [List.findIdx?_eq_some_iff_getElem] at hi
    exact .inr ⟨i, rfl, hi.1⟩
  · exact .inl rfl
theorem idxF_neg {p : E → Bool} {l : List E} (h : idxF p l = -1) : l.findIdx? p = none := by
  unfold idxF at h
  split at h
  · omega
  · assumption
theorem idxF_pos {p : E → Bool} {l : List E} {k : Nat} (h : idxF p l = k) : l.findIdx? p = some k := by
  unfold idxF at h
  split at h
  · rename_i i hi; rw [hi]; congr 1; omega
  · omega
theorem wrap_nat {z : Int} (h0 : 0 ≤ z) (h : z ≤ 9223372036854775807) : IntKind.i64.wrap z = z := by
  rw [IntKind.wrap_i64]; omega
end Go.Proofs.Ytfnnbjkjfoiboaa
