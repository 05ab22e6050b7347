/- The abstract machine, twenty-one: data (E words) as cells that are read or held. -/
import Derived.Test.YtfnnbjkjfoiboaaA20
import Derived.Test.YtfnnbjkjfoiboaaU4
namespace Go.Proofs.Ytfnnbjkjfoiboaa
open Go.RowKit

theorem cloL_app {l m : List AC} (h : cloL l = true) (k : cloL m = true) : cloL (l ++ m) = true := by
  rw [cloL_iff] at h k ⊢
  intro c hc
  rcases List.mem_append.1 hc with hc | hc
  · exact h c hc
  · exact k c hc
theorem rofrL_app {l m : List AC} (h : rofrL l = true) (k : rofrL m = true) : rofrL (l ++ m) = true := by
  rw [rofrL_iff] at h k ⊢
  intro c hc
  rcases List.mem_append.1 hc with hc | hc
  · exact h c hc
  · exact k c hc
theorem toRoL_app (l m : List AC) : toRoL (l ++ m) = toRoL l ++ toRoL m := by simp [toRoL_eq]
mutual
/-- As it is read. -/
def acE : E → List AC
  | .int k n => [.v (.int k n)]
  | .bool b => [.v (.bool b)]
  | .str s => [.v (.string s)]
  | .agg fs => acL fs
  | .lst k _ _ _ l => [.ro l.length k (acL l)]
def acL : List E → List AC
  | [] => []
  | e :: r => acE e ++ acL r
end
mutual
/-- As it is held. -/
def owE : E → List AC
  | .int k n => [.v (.int k n)]
  | .bool b => [.v (.bool b)]
  | .str s => [.v (.string s)]
  | .agg fs => owL fs
  | .lst k T _ _ l => [.ow T l.length k (owL l)]
def owL : List E → List AC
  | [] => []
  | e :: r => owE e ++ owL r
end
mutual
theorem acE_len : ∀ e : E, (acE e).length = e.enc.length
  | .int _ _ => rfl
  | .bool _ => rfl
  | .str _ => rfl
  | .agg fs => by simp only [acE, E.enc]; exact acL_len fs
  | .lst .. => rfl
theorem acL_len : ∀ l : List E, (acL l).length = (E.encL l).length
  | [] => rfl
  | e :: r => by simp only [acL, E.encL, List.length_append]; rw [acE_len e, acL_len r]
end
mutual
theorem owE_len : ∀ e : E, (owE e).length = e.enc.length
  | .int _ _ => rfl
  | .bool _ => rfl
  | .str _ => rfl
  | .agg fs => by simp only [owE, E.enc]; exact owL_len fs
  | .lst .. => rfl
theorem owL_len : ∀ l : List E, (owL l).length = (E.encL l).length
  | [] => rfl
  | e :: r => by simp only [owL, E.encL, List.length_append]; rw [owE_len e, owL_len r]
end
mutual
theorem acE_clo : ∀ e : E, cloL (acE e) = true
  | .int _ _ => rfl
  | .bool _ => rfl
  | .str _ => rfl
  | .agg fs => by simp only [acE]; exact acL_clo fs
  | .lst k T A c l => by simp only [acE, cloL, clo, acL_clo l]; rfl
theorem acL_clo : ∀ l : List E, cloL (acL l) = true
  | [] => rfl
  | e :: r => by simp only [acL]; exact cloL_app (acE_clo e) (acL_clo r)
end
mutual
theorem owE_clo : ∀ e : E, cloL (owE e) = true
  | .int _ _ => rfl
  | .bool _ => rfl
  | .str _ => rfl
  | .agg fs => by simp only [owE]; exact owL_clo fs
  | .lst k T A c l => by simp only [owE, cloL, clo, owL_clo l]; rfl
theorem owL_clo : ∀ l : List E, cloL (owL l) = true
  | [] => rfl
  | e :: r => by simp only [owL]; exact cloL_app (owE_clo e) (owL_clo r)
end
mutual
theorem owE_rofr : ∀ e : E, rofrL (owE e) = true
  | .int _ _ => rfl
  | .bool _ => rfl
  | .str _ => rfl
  | .agg fs => by simp only [owE]; exact owL_rofr fs
  | .lst k T A c l => by simp only [owE, rofrL, rofr, owL_rofr l]; rfl
theorem owL_rofr : ∀ l : List E, rofrL (owL l) = true
  | [] => rfl
  | e :: r => by simp only [owL]; exact rofrL_app (owE_rofr e) (owL_rofr r)
end
mutual
/-- What is held, as it is read. -/
theorem owE_toRo : ∀ e : E, toRoL (owE e) = acE e
  | .int _ _ => rfl
  | .bool _ => rfl
  | .str _ => rfl
  | .agg fs => by simp only [owE, acE]; exact owL_toRo fs
  | .lst k T A c l => by simp only [owE, acE, toRoL, toRo, owL_toRo l]
theorem owL_toRo : ∀ l : List E, toRoL (owL l) = acL l
  | [] => rfl
  | e :: r => by simp only [owL, acL]; rw [toRoL_app, owE_toRo e, owL_toRo r]
end
theorem acL_app : ∀ (l m : List E), acL (l ++ m) = acL l ++ acL m
  | [], m => rfl
  | e :: l, m => by simp only [List.cons_append, acL, acL_app l m, List.append_assoc]
theorem owL_app : ∀ (l m : List E), owL (l ++ m) = owL l ++ owL m
  | [], m => rfl
  | e :: l, m => by simp only [List.cons_append, owL, owL_app l m, List.append_assoc]
/-- Part of a row: of one element. -/
theorem part_at {f : E → List AC} {g : List E → List AC} (g0 : g [] = []) (g1 : ∀ e r, g (e :: r) = f e ++ g r) {k : Nat} : ∀ {l : List E} {i j m : Nat} {x : E}, (∀ e ∈ l, (f e).length = k) → l[i]? = some x → j + m ≤ k → subL (g l) (i * k + j) m = subL (f x) j m
  | [], i, j, m, x, _, hx, _ => by simp at hx
  | e :: r, 0, j, m, x, hk, hx, hj => by
    simp only [List.getElem?_cons_zero, Option.some.injEq] at hx
    subst hx
    have he := hk e List.mem_cons_self
    rw [g1]
    unfold subL
    rw [Nat.zero_mul, Nat.zero_add, List.drop_append_of_le_length (by omega), List.take_append_of_le_length (by rw [List.length_drop]; omega)]
  | e :: r, i + 1, j, m, x, hk, hx, hj => by
    have he := hk e List.mem_cons_self
    have := part_at g0 g1 (i := i) (fun y hy => hk y (List.mem_cons_of_mem _ hy)) (by simpa using hx) hj
    rw [g1, ← this]
    unfold subL
    have e1 : (i + 1) * k + j = (f e).length + (i * k + j) := by rw [he, Nat.add_mul]; omega
    rw [e1, List.drop_append, List.drop_eq_nil_of_le (by omega), List.nil_append, Nat.add_sub_cancel_left]
theorem acL_at {k : Nat} {l : List E} {i j m : Nat} {x : E} (h : ∀ e ∈ l, e.enc.length = k) (hx : l[i]? = some x) (hj : j + m ≤ k) : subL (acL l) (i * k + j) m = subL (acE x) j m :=
  part_at (f := acE) (g := acL) rfl (fun _ _ => rfl) (fun e he => by rw [acE_len]; exact h e he) hx hj
theorem owL_at {k : Nat} {l : List E} {i j m : Nat} {x : E} (h : ∀ e ∈ l, e.enc.length = k) (hx : l[i]? = some x) (hj : j + m ≤ k) : subL (owL l) (i * k + j) m = subL (owE x) j m :=
  part_at (f := owE) (g := owL) rfl (fun _ _ => rfl) (fun e he => by rw [owE_len]; exact h e he) hx hj
end Go.Proofs.Ytfnnbjkjfoiboaa
