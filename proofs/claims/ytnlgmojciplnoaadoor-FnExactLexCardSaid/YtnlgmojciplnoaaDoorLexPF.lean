/- The abstract machine: values and instructions compared as wholes. -/
import Derived.Laws.StructEq
import Derived.Laws.Concat
import Derived.Laws.Strings3
import Derived.Laws.DeepStrings4
import Derived.Test.YtnlgmojciplnoaaDoorLexPE
namespace Go.Proofs.YtnlgmojciplnoaaDoor
open Go.RowKit
set_option maxRecDepth 100000
section
variable {P : Program} {ops : Array Oper} {Q : Exit → Act → World → Prop} {C : Ctx} {H : List (Nat × Oper × Inf)} {i : Nat} {r : List Nat} {o : Oper} {dr : Bool} {σ : AS}
variable {tm : Nat → AV} {hp : Nat → Option Row} {gn L : Nat} {us : List Nat} {x : AV}
theorem zp5 {y : Value} (hop : ops[i]? = some o) (hg : gw ops σ.tm o = some true) (hs1 : scal y = true) (hr : ∀ (ev : Operand → Value) (w : World), (∀ z ∈ o.op.operands, ∀ v, (σ.ev z).val? = some v → ev z = v) → (execOp ev o).run P w = .ok (.value y) w) : Snd P ops Q C i o σ ⟨fpO σ.ev o, [], [], .c (.v y)⟩ := by
  intro τ a w ha hs K hK
  obtain ⟨φ, F, St, hs⟩ := hs
  have h3 := hr a.eval w fun z hz v hv => za17 (by rw [ha.ev z hz]; exact hv) (hs.ev z)
  unfold wpOp
  rw [hop]
  have hw := zm13 hs (b := true) (by rw [ha.gw]; exact hg)
  simp only [hw, if_true]
  refine .inl ?_
  unfold Oper.wp
  rw [h3]
  have h7 := hs.put o.dst (x := .c (.v y)) (u := y) (by simp only [VR, CR]; exact ⟨trivial, hs1, trivial⟩)
  exact hK _ _ ⟨φ, F, St, h7⟩
theorem zj18 {o : Oper} {op : BinOp} {T ty : TypeId} {xo yo : Operand} {xs ys : Array Value} {b q : Bool} (ho : o.op = .binOp op T xo yo ty) (hm : P.eqGuardType P.depth T = false) (hq : ∀ w, (Op.equalIn 10000 T (.agg xs) (.agg ys)).run P w = .ok b w) (ev : Operand → Value) (w : World) (hx : ev xo = .agg xs) (hy : ev yo = .agg ys) (hb : op = .eql ∧ q = b ∨ op = .neq ∧ q = !b) : (execOp ev o).run P w = .ok (.value (.bool q)) w := by
  unfold execOp
  rw [ho]
  simp only [hx, hy]
  rcases hb with ⟨rfl, rfl⟩ | ⟨rfl, rfl⟩
  · simp [Sem.run_bind, run_eqGuard_agg w _ _ _ _ _ _ hm, run_eql_struct, hq]
  · simp [Sem.run_bind, run_eqGuard_agg w _ _ _ _ _ _ hm, run_neq_struct, hq]
theorem zl21 {t : Nat} {op : BinOp} {T ty : TypeId} {xo yo : Operand} {xs ys : List Value} {b q : Bool} (hop : ops[i]? = some o) (ho : o.op = .binOp op T xo yo ty) (hd : o.dst = some t) (ht : Nat.blt t L = true) (hg : gw ops tm o = some true)
    (hm : P.eqGuardType P.depth T = false) (hx : (AS.ev ⟨tm, hp, gn, us, L⟩ xo).val? = some (.agg xs.toArray)) (hy : (AS.ev ⟨tm, hp, gn, us, L⟩ yo).val? = some (.agg ys.toArray)) (hq : ∀ w, (Op.equalIn 10000 T (.agg xs.toArray) (.agg ys.toArray)).run P w = .ok b w) (hb : op = .eql ∧ q = b ∨ op = .neq ∧ q = !b)
    (hc : chk dr ops i o ⟨fpO (AS.ev ⟨tm, hp, gn, us, L⟩) o, [], [], .c (.v (.bool q))⟩ H = true) (h : Walk P ops Q C dr (keepH dr (i, o, ⟨fpO (AS.ev ⟨tm, hp, gn, us, L⟩) o, [], [], .c (.v (.bool q))⟩) H) r ⟨upd tm t (.c (.v (.bool q))), hp, gn, us, L⟩) : Walk P ops Q C dr H (i :: r) ⟨tm, hp, gn, us, L⟩ := by
  refine ⟨o, _, hop, zp5 (y := .bool q) hop hg rfl fun ev w he => ?_, fun n hn => absurd hn List.not_mem_nil, zd4 hc, zi3 ?_⟩
  · have e : o.op.operands = #[xo, yo] := by rw [ho]; rfl
    exact zj18 ho hm hq ev w (he xo (by rw [e]; simp) _ hx) (he yo (by rw [e]; simp) _ hy) hb
  · show Walk P ops Q C dr _ r (AS.put _ o.dst _)
    rw [hd, zn4 (by exact zk4 ht)]; exact h
end
structure EntT (w : World) (St : Nat → Prop) (ins : List AV) (us : List Value) (p : Nat) (T : TypeId) (k n : Nat) (cs : List AC) (A : List Nat) : Prop where
  args : VRL w St φ0 K0 ins us
  row : ∃ u vs fs, us[p]? = some u ∧ CRL w St φ0 K0 cs vs fs ∧ w.ownsRow 0 T k u n vs ∧ A = obl u ++ fs
  nod : A.Nodup
  st : ∀ b ∈ A, ¬ St b
  gl : GlobOk w ∧ ∀ b, isG b → b ∉ A
structure ExtT (w w' : World) (us : List Value) (p : Nat) (T : TypeId) (k n : Nat) (A : List Nat) (res : AV) (back : Option (List AC)) (u : Value) (St' : Nat → Prop) (G B : List Nat) : Prop where
  frm : Fc (· ∈ A) (fun _ _ => False) w w'
  res : VRF w' St' φ0 K0 res u G
  bak : ∀ cs', back = some cs' → ∃ v vs fs, us[p]? = some v ∧ CRL w' St' φ0 K0 cs' vs fs ∧ w'.ownsRow 0 T k v n vs ∧ B = obl v ++ fs
  nod : (G ++ B).Nodup
  own : ∀ b ∈ G ++ B, b ∈ A ∨ w.heap.size ≤ b
section
variable {C : Ctx} {φ : Nat → Lc} {F : Nat → List Nat} {St : Nat → Prop} {σ : AS} {a : Act} {w w' : World}
end
section
variable {P : Program} {ops : Array Oper} {Q : Exit → Act → World → Prop} {C : Ctx} {σ : AS} {o : Oper} {i : Nat}
end
section
variable {P : Program} {ops : Array Oper} {Q : Exit → Act → World → Prop} {C : Ctx} {H : List (Nat × Oper × Inf)} {i : Nat} {r : List Nat} {o : Oper} {dr : Bool}
variable {tm : Nat → AV} {hp : Nat → Option Row} {gn L : Nat} {us : List Nat}
end
section
variable {ops : Array Oper} {Q : Exit → Act → World → Prop} {C : Ctx} {H : List (Nat × Oper × Inf)} {i : Nat} {r : List Nat} {o : Oper} {dr : Bool}
variable {tm : Nat → AV} {hp : Nat → Option Row} {gn L : Nat} {us : List Nat}
end
theorem zh14 {ρ : Nat → Option Nat} : ∀ {P Q P' Q' : List AC}, rnL ρ P = some P' → rnL ρ Q = some Q' → rnL ρ (P ++ Q) = some (P' ++ Q')
  | [], Q, P', Q', h, k => by simp only [rnL, Option.some.injEq] at h; subst h; exact k
  | c :: P, Q, P', Q', h, k => by
    simp only [rnL] at h
    split at h
    · rename_i c' r' h1 h2
      injection h with h; subst h
      simp only [List.cons_append, rnL, h1, zh14 h2 k]
    · cases h
theorem zp2 {ρ : Nat → Option Nat} {y : Option Row} {T : TypeId} {k m : Nat} {b : Bool} {P Q : List AC} {i j n : Nat} (h : y = some ⟨T, k, m, b, P ++ .sl i n :: Q⟩) (hρ : ρ i = some j) (hP : cloL P = true) (hQ : cloL Q = true) :
    ∃ r', y = some r' ∧ ((cloL r'.cs = true ∧ (⟨T, k, m, b, P ++ .sl j n :: Q⟩ : Row) = r') ∨ ∃ cs', rnL ρ r'.cs = some cs' ∧ (⟨T, k, m, b, P ++ .sl j n :: Q⟩ : Row) = { r' with cs := cs' }) := by
  refine ⟨_, h, .inr ⟨P ++ .sl j n :: Q, ?_, rfl⟩⟩
  refine zh14 (zf9 P hP) ?_
  simp [rnL, rnC, hρ, zf9 Q hQ]
section
variable {P : Program} {ops : Array Oper} {Q : Exit → Act → World → Prop} {C : Ctx} {H : List (Nat × Oper × Inf)} {i : Nat} {r : List Nat} {o : Oper} {dr : Bool}
variable {tm : Nat → AV} {hp : Nat → Option Row} {gn L : Nat} {us : List Nat}
def gdL (i : Nat) : List Oper → Bool
  | [] => false
  | o :: r => match o.guard with | some (g, _) => Nat.beq g i || gdL i r | none => gdL i r
end
section
variable {ops : Array Oper} {Q : Exit → Act → World → Prop} {C : Ctx} {H H' : List (Nat × Oper × Inf)} {i : Nat} {r : List Nat} {o : Oper} {dr : Bool}
variable {tm : Nat → AV} {hp : Nat → Option Row} {gn L : Nat} {us : List Nat} {x : AV}
theorem x_gm {t : Nat} {b : Bool} (h1 : b = true → Walk Tryd.prog ops Q C dr (keepH dr (i, o, ⟨fpO (AS.ev ⟨tm, hp, gn, us, L⟩) o, [], [], .c (.v (.bool true))⟩) H) r ⟨upd tm t (.c (.v (.bool true))), hp, gn, us, L⟩)
    (h2 : b = false → Walk Tryd.prog ops Q C dr (keepH dr (i, o, ⟨fpO (AS.ev ⟨tm, hp, gn, us, L⟩) o, [], [], .c (.v (.bool false))⟩) H) r ⟨upd tm t (.c (.v (.bool false))), hp, gn, us, L⟩)
    (hop : ops[i]? = some o := by exact rfl) (hgd : gdL i ops.toList = true := by exact rfl) (hd : o.dst = some t := by exact rfl) (ht : Nat.blt t L = true := by exact rfl) (hg : gw ops tm o = some true := by exact rfl) (he : EffD Tryd.prog o (AS.ev ⟨tm, hp, gn, us, L⟩) hp 0 = some (.c (.v (.bool b)), .nop) := by rfl)
    (hc1 : chk dr ops i o ⟨fpO (AS.ev ⟨tm, hp, gn, us, L⟩) o, [], [], .c (.v (.bool true))⟩ H = true := by first | (with_reducible exact zx1) | kernel_rfl) (hc2 : chk dr ops i o ⟨fpO (AS.ev ⟨tm, hp, gn, us, L⟩) o, [], [], .c (.v (.bool false))⟩ H = true := by first | (with_reducible exact zx1) | kernel_rfl) : Walk Tryd.prog ops Q C dr H (i :: r) ⟨tm, hp, gn, us, L⟩ :=
  zh20 hop hd ht hg he hc1 hc2 h1 h2
theorem zg16 {t : Nat} {c : Call} {fv : Operand} {f : FuncId} {caps : List AC} {args ins : List AV} {res : AV} {nv : AV} {nr : List (Nat × Row)}
    (h : Walk Tryd.prog ops Q C dr (keepH dr (i, o, ⟨args.flatMap snV ++ [], nr.map (fun p => (p.1, some p.2)), nr.map (·.1), nv⟩) H) r ⟨upd tm t nv, updL hp (nr.map (fun p => (p.1, some p.2))), gn, nr.map (·.1) ++ us, L⟩) (hop : ops[i]? = some o := by exact rfl) (hoc : o.op = .call c := by exact rfl) (hcal : c.callee = .value fv := by exact rfl) (hd : o.dst = some t := by exact rfl) (ht : Nat.blt t L = true := by exact rfl) (hg : gw ops tm o = some true := by exact rfl) (hfv : AS.ev ⟨tm, hp, gn, us, L⟩ fv = .c (.fn f caps) := by exact rfl) (hctr : Ctr Tryd.prog f ins [] res [] := by assumption) (hargs : callArgs ⟨tm, hp, gn, us, L⟩ c caps = args := by exact rfl) (hcv : args.map (cvV hp []) = ins := by ((repeat' (first | rfl | exact za7 | refine zu5 ?_ ?_ | refine zg14 ?_ | refine cv_c ?_ | refine zv5 ?_ ?_ | (refine zg9 ?_; (first | rfl | (simp [cloV, cloL, clo, zn, zm, zo, zk, zi]; done))) | (refine zh9 ?_; (first | rfl | (simp [cloV, cloL, clo, zn, zm, zo, zk, zi]; done))) | refine zi9 ?_ | (refine cvC_sl' (by rfl) (by rfl) (by rfl) (by rfl) ?_ ?_; (focus (first | rfl | (simp [cloV, cloL, clo, zn, zm, zo, zk, zi]; done))); (first | rfl | exact zr4 _)))) <;> exact rfl)) (hm : rofrV res = true := by (first | rfl | exact zm4 _ | (simp [rofrV, rofrVL, rofrL, rofr, zm4, za5, zf5]; done))) (hopn : opV (100 * (t + 1)) res = (nv, nr) := by exact rfl) (hf : (nr.all fun p => Nat.ble gn p.1 && !us.contains p.1) = true := by exact rfl) (hc : chk dr ops i o ⟨args.flatMap snV ++ [], nr.map (fun p => (p.1, some p.2)), nr.map (·.1), nv⟩ H = true := by first | (with_reducible exact zx1) | kernel_rfl) : Walk Tryd.prog ops Q C dr H (i :: r) ⟨tm, hp, gn, us, L⟩ :=
  zo17 (100 * (t + 1)) hctr hop hoc hcal hd ht hg hfv hargs hcv hm hopn hf hc h
theorem zk18 {t : Nat} {c : Call} {fv : Operand} {f : FuncId} {caps : List AC} {args ins : List AV} {res : AV} {nv : AV} {nr : List (Nat × Row)} (hctr : Ctr Tryd.prog f ins [] res [])
    (h : Walk Tryd.prog ops Q C dr (keepH dr (i, o, ⟨args.flatMap snV ++ [], nr.map (fun p => (p.1, some p.2)), nr.map (·.1), nv⟩) H) r ⟨upd tm t nv, updL hp (nr.map (fun p => (p.1, some p.2))), gn, nr.map (·.1) ++ us, L⟩) (hop : ops[i]? = some o := by exact rfl) (hoc : o.op = .call c := by exact rfl) (hcal : c.callee = .value fv := by exact rfl) (hd : o.dst = some t := by exact rfl) (ht : Nat.blt t L = true := by exact rfl) (hg : gw ops tm o = some true := by exact rfl) (hfv : AS.ev ⟨tm, hp, gn, us, L⟩ fv = .c (.fn f caps) := by exact rfl) (hargs : callArgs ⟨tm, hp, gn, us, L⟩ c caps = args := by exact rfl) (hcv : args.map (cvV hp []) = ins := by ((repeat' (first | rfl | exact za7 | refine zu5 ?_ ?_ | refine zg14 ?_ | refine cv_c ?_ | refine zv5 ?_ ?_ | (refine zg9 ?_; (first | rfl | (simp [cloV, cloL, clo, zn, zm, zo, zk, zi]; done))) | (refine zh9 ?_; (first | rfl | (simp [cloV, cloL, clo, zn, zm, zo, zk, zi]; done))) | refine zi9 ?_ | (refine cvC_sl' (by rfl) (by rfl) (by rfl) (by rfl) ?_ ?_; (focus (first | rfl | (simp [cloV, cloL, clo, zn, zm, zo, zk, zi]; done))); (first | rfl | exact zr4 _)))) <;> exact rfl)) (hm : rofrV res = true := by (first | rfl | exact zm4 _ | (simp [rofrV, rofrVL, rofrL, rofr, zm4, za5, zf5]; done))) (hopn : opV (100 * (t + 1)) res = (nv, nr) := by exact rfl) (hf : (nr.all fun p => Nat.ble gn p.1 && !us.contains p.1) = true := by exact rfl) (hc : chk dr ops i o ⟨args.flatMap snV ++ [], nr.map (fun p => (p.1, some p.2)), nr.map (·.1), nv⟩ H = true := by first | (with_reducible exact zx1) | kernel_rfl) : Walk Tryd.prog ops Q C dr H (i :: r) ⟨tm, hp, gn, us, L⟩ :=
  zo17 (100 * (t + 1)) hctr hop hoc hcal hd ht hg hfv hargs hcv hm hopn hf hc h
end
section
variable {ops : Array Oper} {Q : Exit → Act → World → Prop} {C : Ctx} {H H' : List (Nat × Oper × Inf)} {i : Nat} {r : List Nat} {o : Oper} {dr : Bool}
variable {tm : Nat → AV} {hp : Nat → Option Row} {gn L : Nat} {us : List Nat}
theorem zl18 {P : Program} {T ty : TypeId} {xo yo : Operand} {a b : ByteArray} (ho : o.op = .binOp .add T xo yo ty) (hT : P.underlying T = some .string) (hs : a.size + b.size ≤ 9223372036854775807) (ev : Operand → Value) (w : World) (hx : ev xo = .string a) (hy : ev yo = .string b) : (execOp ev o).run P w = .ok (.value (.string (a ++ b))) w := by
  unfold execOp
  rw [ho]
  simp only [hx, hy]
  simp [Sem.run_bind, binOp, eqGuard, run_underlying hT, run_string_add_sum w a b hs]
theorem zm18 {t : Nat} {T ty : TypeId} {xo yo : Operand} {a b : ByteArray} (h : Walk Tryd.prog ops Q C dr (keepH dr (i, o, ⟨fpO (AS.ev ⟨tm, hp, gn, us, L⟩) o, [], [], .c (.v (.string (a ++ b)))⟩) H) r ⟨upd tm t (.c (.v (.string (a ++ b)))), hp, gn, us, L⟩)
    (hop : ops[i]? = some o := by exact rfl) (ho : o.op = .binOp .add T xo yo ty := by exact rfl) (hT : (Tryd.prog).underlying T = some .string := by exact Tryd.underlying9) (hd : o.dst = some t := by exact rfl) (ht : Nat.blt t L = true := by exact rfl) (hg : gw ops tm o = some true := by exact rfl)
    (hx : AS.ev ⟨tm, hp, gn, us, L⟩ xo = .c (.v (.string a)) := by exact rfl) (hy : AS.ev ⟨tm, hp, gn, us, L⟩ yo = .c (.v (.string b)) := by exact rfl) (hs : a.size + b.size ≤ 9223372036854775807 := by first | omega | (simp only [ByteArray.size_append', ByteArray.size_mk', List.size_toArray, List.length_cons, List.length_nil]; omega))
    (hc : chk dr ops i o ⟨fpO (AS.ev ⟨tm, hp, gn, us, L⟩) o, [], [], .c (.v (.string (a ++ b)))⟩ H = true := by first | (with_reducible exact zx1) | kernel_rfl) : Walk Tryd.prog ops Q C dr H (i :: r) ⟨tm, hp, gn, us, L⟩ := by
  refine ⟨o, _, hop, zp5 (y := .string (a ++ b)) hop hg rfl fun ev w he => ?_, fun n hn => absurd hn List.not_mem_nil, zd4 hc, zi3 ?_⟩
  · have e : o.op.operands = #[xo, yo] := by rw [ho]; rfl
    exact zl18 ho hT hs ev w (he xo (by rw [e]; simp) _ (by rw [hx]; rfl)) (he yo (by rw [e]; simp) _ (by rw [hy]; rfl))
  · show Walk Tryd.prog ops Q C dr _ r (AS.put _ o.dst _)
    rw [hd, zn4 (by exact zk4 ht)]; exact h
def bytC (bs : List UInt8) : List AC := bs.map fun b => .v (.int .u8 b.toNat)
theorem zl (bs : List UInt8) : (bs.map fun b => AC.v (.int .u8 b.toNat)).all noUn = true := by
  rw [List.all_eq_true]
  intro c hc
  obtain ⟨b, _, rfl⟩ := List.mem_map.1 hc
  rfl
theorem zb7 : ∀ bs : List UInt8, bytesL ((bytC bs).map ld) = some bs
  | [] => rfl
  | b :: r => by
    have := zb7 r
    unfold bytC at this ⊢
    simp only [List.map_cons, ld, bytesL, this, Option.map_some, Int.toNat_natCast, UInt8.ofNat_toNat]
def convB (P : Program) (s d : TypeId) : Bool := match P.underlying s, P.underlying d with
  | some (.slice e), some .string => (match P.underlying e with | some (.int .u8) => true | _ => false)
  | _, _ => false
theorem zh16 {P : Program} {s d : TypeId} {hp : Nat → Option Row} {j n : Nat} {rw : Row} {bs : List UInt8} (hr : hp j = some rw) (h1 : rw.k = 1) (h2 : rw.n = n) (h3 : rw.box = false) (hcs : rw.cs = bytC bs) (hT : convB P s d = true) :
    aStr P hp s d (.c (.sl j n)) = some (.c (.v (.string ⟨bs.toArray⟩))) := by
  unfold convB at hT
  unfold aStr
  split at hT
  · rename_i e e1 e2
    rw [e1, e2]
    split at hT
    · rename_i e3
      simp only [e3, zb5 hr h1 h2 h3, hcs, zb7, Option.map_some]
    · cases hT
  · cases hT
theorem zi20 {t j n : Nat} {s d : TypeId} {xo : Operand} {rw : Row} {bs : List UInt8} (h : Walk Tryd.prog ops Q C dr (keepH dr (i, o, ⟨fpO (AS.ev ⟨tm, hp, gn, us, L⟩) o, [], [], .c (.v (.string ⟨bs.toArray⟩))⟩) H) r ⟨upd tm t (.c (.v (.string ⟨bs.toArray⟩))), hp, gn, us, L⟩)
    (hop : ops[i]? = some o := by exact rfl) (ho : o.op = .convert s d xo := by exact rfl) (hd : o.dst = some t := by exact rfl) (ht : Nat.blt t L = true := by exact rfl) (hg : gw ops tm o = some true := by exact rfl)
    (hx : AS.ev ⟨tm, hp, gn, us, L⟩ xo = .c (.sl j n) := by exact rfl) (hr : hp j = some rw := by exact rfl) (h1 : rw.k = 1 := by exact rfl) (h2 : rw.n = n := by exact rfl) (h3 : rw.box = false := by exact rfl) (hcs : rw.cs = bytC bs := by exact rfl) (hT : convB Tryd.prog s d = true := by kernel_rfl)
    (hc : chk dr ops i o ⟨fpO (AS.ev ⟨tm, hp, gn, us, L⟩) o, [], [], .c (.v (.string ⟨bs.toArray⟩))⟩ H = true := by first | (with_reducible exact zx1) | kernel_rfl) : Walk Tryd.prog ops Q C dr H (i :: r) ⟨tm, hp, gn, us, L⟩ := by
  refine zc5 h hop hd ht hg ?_ hc
  unfold EffD
  rw [ho]
  simp only [hx, zh16 hr h1 h2 h3 hcs hT, AV.val?, isStr]
  rw [if_neg (by simp)]
  rfl
def bytE (l : List E) : List UInt8 := l.map fun e => match e with | .int _ z => UInt8.ofNat z.toNat | _ => 0
theorem zs7 : ∀ {l : List E}, (∀ e ∈ l, ∃ z, e = .int .u8 z) → bytesL (acL l) = some (bytE l)
  | [], _ => rfl
  | e :: r, h => by
    obtain ⟨z, rfl⟩ := h e List.mem_cons_self
    have := zs7 (l := r) fun e he => h e (List.mem_cons_of_mem _ he)
    show bytesL (.v (.int .u8 z) :: acL r) = _
    simp only [bytesL, this, Option.map_some]
    rfl
theorem zi16 {P : Program} {s d : TypeId} {hp : Nat → Option Row} {n : Nat} {l : List E} (hl : ∀ e ∈ l, ∃ z, e = .int .u8 z) (hT : convB P s d = true) :
    aStr P hp s d (.c (.ro n 1 (acL l))) = some (.c (.v (.string ⟨(bytE l).toArray⟩))) := by
  unfold convB at hT
  unfold aStr
  split at hT
  · rename_i e e1 e2
    rw [e1, e2]
    split at hT
    · rename_i e3
      simp only [e3, srcOf, if_pos, zs7 hl, Option.map_some]
    · cases hT
  · cases hT
theorem zj20 {t n : Nat} {s d : TypeId} {xo : Operand} {l : List E} (h : Walk Tryd.prog ops Q C dr (keepH dr (i, o, ⟨fpO (AS.ev ⟨tm, hp, gn, us, L⟩) o, [], [], .c (.v (.string ⟨(bytE l).toArray⟩))⟩) H) r ⟨upd tm t (.c (.v (.string ⟨(bytE l).toArray⟩))), hp, gn, us, L⟩)
    (hop : ops[i]? = some o := by exact rfl) (ho : o.op = .convert s d xo := by exact rfl) (hd : o.dst = some t := by exact rfl) (ht : Nat.blt t L = true := by exact rfl) (hg : gw ops tm o = some true := by exact rfl)
    (hx : AS.ev ⟨tm, hp, gn, us, L⟩ xo = .c (.ro n 1 (acL l)) := by exact rfl) (hl : ∀ e ∈ l, ∃ z, e = .int .u8 z := by assumption) (hT : convB Tryd.prog s d = true := by kernel_rfl)
    (hc : chk dr ops i o ⟨fpO (AS.ev ⟨tm, hp, gn, us, L⟩) o, [], [], .c (.v (.string ⟨(bytE l).toArray⟩))⟩ H = true := by first | (with_reducible exact zx1) | kernel_rfl) : Walk Tryd.prog ops Q C dr H (i :: r) ⟨tm, hp, gn, us, L⟩ := by
  refine zc5 h hop hd ht hg ?_ hc
  unfold EffD
  rw [ho]
  simp only [hx, zi16 hl hT, AV.val?, isStr]
  rw [if_neg (by simp)]
  rfl
end
def bAt (s : ByteArray) (j : Nat) : Nat := (s.data[j]?.getD 0).toNat
theorem zo3 (s : ByteArray) (j : Nat) : bAt s j < 256 := UInt8.toNat_lt _
theorem zn18 {s : ByteArray} {j : Nat} (h : j < s.size) : (s[j]'h).toNat = bAt s j := by
  unfold bAt
  have h' : j < s.data.size := h
  rw [Array.getElem?_eq_getElem h']
  rfl
def cutB (s : ByteArray) (a b : Nat) : ByteArray := s.extract a b
theorem zu2 {s : ByteArray} {a b : Nat} (h1 : a ≤ b) (h2 : b ≤ s.size) : (cutB s a b).size = b - a := by
  unfold cutB
  rw [ByteArray.size_extract]
  omega
theorem za4 {s : ByteArray} {a b j : Nat} (h2 : b ≤ s.size) (hj : j < b - a) : bAt (cutB s a b) j = bAt s (a + j) := by
  unfold bAt cutB
  rw [ByteArray.data_extract, Array.getElem?_extract]
  have : b ≤ s.data.size := h2
  rw [if_pos (by omega)]
section
variable {ops : Array Oper} {Q : Exit → Act → World → Prop} {C : Ctx} {H H' : List (Nat × Oper × Inf)} {i : Nat} {r : List Nat} {o : Oper} {dr : Bool}
variable {tm : Nat → AV} {hp : Nat → Option Row} {gn L : Nat} {us : List Nat}
theorem zo18 {P : Program} {T : TypeId} {xo io : Operand} {s : ByteArray} {kd : IntKind} {z : Int} {j : Nat} (ho : o.op = .index T xo io) (hT : P.underlying T = some .string) (hz : z = (j : Int)) (hj : j < s.size) (ev : Operand → Value) (w : World) (hx : ev xo = .string s) (hi : ev io = .int kd z) : (execOp ev o).run P w = .ok (.value (.int .u8 (bAt s j))) w := by
  subst hz
  unfold execOp
  rw [ho]
  simp only [hx, hi]
  have h := run_index_string (P := P) w T s kd (j : Int) hT
  rw [dif_pos ⟨by omega, by omega⟩] at h
  simp [Sem.run_bind, h, zn18 hj]
theorem zp18 {t j : Nat} {T : TypeId} {xo io : Operand} {s : ByteArray} {kd : IntKind} {z : Int} (h : Walk Tryd.prog ops Q C dr (keepH dr (i, o, ⟨fpO (AS.ev ⟨tm, hp, gn, us, L⟩) o, [], [], .c (.v (.int .u8 (bAt s j)))⟩) H) r ⟨upd tm t (.c (.v (.int .u8 (bAt s j)))), hp, gn, us, L⟩)
    (hop : ops[i]? = some o := by exact rfl) (ho : o.op = .index T xo io := by exact rfl) (hT : (Tryd.prog).underlying T = some .string := by exact Tryd.underlying9) (hd : o.dst = some t := by exact rfl) (ht : Nat.blt t L = true := by exact rfl) (hg : gw ops tm o = some true := by exact rfl)
    (hx : AS.ev ⟨tm, hp, gn, us, L⟩ xo = .c (.v (.string s)) := by exact rfl) (hi : AS.ev ⟨tm, hp, gn, us, L⟩ io = .c (.v (.int kd z)) := by exact rfl) (hz : z = (j : Int) := by first | assumption | rfl) (hj : j < s.size := by first | assumption | omega | (simp only [beq_iff_eq, decide_eq_true_iff] at *; omega))
    (hc : chk dr ops i o ⟨fpO (AS.ev ⟨tm, hp, gn, us, L⟩) o, [], [], .c (.v (.int .u8 (bAt s j)))⟩ H = true := by first | (with_reducible exact zx1) | kernel_rfl) : Walk Tryd.prog ops Q C dr H (i :: r) ⟨tm, hp, gn, us, L⟩ := by
  refine ⟨o, _, hop, zp5 (y := .int .u8 (bAt s j)) hop hg rfl fun ev w he => ?_, fun n hn => absurd hn List.not_mem_nil, zd4 hc, zi3 ?_⟩
  · have e : o.op.operands = #[xo, io] := by rw [ho]; rfl
    exact zo18 ho hT hz hj ev w (he xo (by rw [e]; simp) _ (by rw [hx]; rfl)) (he io (by rw [e]; simp) _ (by rw [hi]; rfl))
  · show Walk Tryd.prog ops Q C dr _ r (AS.put _ o.dst _)
    rw [hd, zn4 (by exact zk4 ht)]; exact h
theorem zq18 {P : Program} {T : TypeId} {xo lo hi : Operand} {s : ByteArray} {k1 k2 : IntKind} {y z : Int} {a b : Nat} (ho : o.op = .slice T xo (some lo) (some hi) none) (hT : P.underlying T = some .string) (hy : y = (a : Int)) (hz : z = (b : Int)) (h1 : a ≤ b) (h2 : b ≤ s.size) (ev : Operand → Value) (w : World) (hx : ev xo = .string s) (hl : ev lo = .int k1 y) (hh : ev hi = .int k2 z) : (execOp ev o).run P w = .ok (.value (.string (cutB s a b))) w := by
  subst hy hz
  unfold execOp
  rw [ho]
  have h := run_slice_string (P := P) w T s k1 k2 (a : Int) (b : Int) hT (by omega) (by omega) (by omega)
  simp only [Int.toNat_natCast] at h
  simp [Sem.run_bind, hx, hl, hh, run_sliceAt_string w _ _ _ _ _ hT, h, cutB]
theorem zr18 {P : Program} {T : TypeId} {xo lo : Operand} {s : ByteArray} {k1 : IntKind} {y : Int} {a : Nat} (ho : o.op = .slice T xo (some lo) none none) (hT : P.underlying T = some .string) (hy : y = (a : Int)) (h1 : a ≤ s.size) (ev : Operand → Value) (w : World) (hx : ev xo = .string s) (hl : ev lo = .int k1 y) : (execOp ev o).run P w = .ok (.value (.string (cutB s a s.size))) w := by
  subst hy
  unfold execOp
  rw [ho]
  have h := run_slice_string_l (P := P) w T s hT k1 (a : Int) (by omega) (by omega)
  simp only [Int.toNat_natCast] at h
  simp [Sem.run_bind, hx, hl, run_sliceAt_string w _ _ _ _ _ hT, h, cutB]
theorem zs18 {P : Program} {T : TypeId} {xo hi : Operand} {s : ByteArray} {k2 : IntKind} {z : Int} {b : Nat} (ho : o.op = .slice T xo none (some hi) none) (hT : P.underlying T = some .string) (hz : z = (b : Int)) (h2 : b ≤ s.size) (ev : Operand → Value) (w : World) (hx : ev xo = .string s) (hh : ev hi = .int k2 z) : (execOp ev o).run P w = .ok (.value (.string (cutB s 0 b))) w := by
  subst hz
  unfold execOp
  rw [ho]
  have h := run_slice_string_h (P := P) w T s hT k2 (b : Int) (by omega) (by omega)
  simp only [Int.toNat_natCast] at h
  simp [Sem.run_bind, hx, hh, run_sliceAt_string w _ _ _ _ _ hT, h, cutB]
theorem zt18 {t a b : Nat} {T : TypeId} {xo lo hi : Operand} {s : ByteArray} {k1 k2 : IntKind} {y z : Int} (h : Walk Tryd.prog ops Q C dr (keepH dr (i, o, ⟨fpO (AS.ev ⟨tm, hp, gn, us, L⟩) o, [], [], .c (.v (.string (cutB s a b)))⟩) H) r ⟨upd tm t (.c (.v (.string (cutB s a b)))), hp, gn, us, L⟩)
    (hop : ops[i]? = some o := by exact rfl) (ho : o.op = .slice T xo (some lo) (some hi) none := by exact rfl) (hT : (Tryd.prog).underlying T = some .string := by exact Tryd.underlying9) (hd : o.dst = some t := by exact rfl) (ht : Nat.blt t L = true := by exact rfl) (hg : gw ops tm o = some true := by exact rfl)
    (hx : AS.ev ⟨tm, hp, gn, us, L⟩ xo = .c (.v (.string s)) := by exact rfl) (hl : AS.ev ⟨tm, hp, gn, us, L⟩ lo = .c (.v (.int k1 y)) := by exact rfl) (hh : AS.ev ⟨tm, hp, gn, us, L⟩ hi = .c (.v (.int k2 z)) := by exact rfl) (hy : y = (a : Int) := by first | assumption | rfl) (hz : z = (b : Int) := by first | assumption | rfl) (h1 : a ≤ b := by first | assumption | omega) (h2 : b ≤ s.size := by first | assumption | omega)
    (hc : chk dr ops i o ⟨fpO (AS.ev ⟨tm, hp, gn, us, L⟩) o, [], [], .c (.v (.string (cutB s a b)))⟩ H = true := by first | (with_reducible exact zx1) | kernel_rfl) : Walk Tryd.prog ops Q C dr H (i :: r) ⟨tm, hp, gn, us, L⟩ := by
  refine ⟨o, _, hop, zp5 (y := .string (cutB s a b)) hop hg rfl fun ev w he => ?_, fun n hn => absurd hn List.not_mem_nil, zd4 hc, zi3 ?_⟩
  · have e : o.op.operands.toList = [xo, lo, hi] := by rw [ho]; rfl
    have e' : ∀ q ∈ [xo, lo, hi], q ∈ o.op.operands := fun q hq => by rw [← e] at hq; exact Array.mem_toList_iff.1 hq
    exact zq18 ho hT hy hz h1 h2 ev w (he xo (e' _ (by simp)) _ (by rw [hx]; rfl)) (he lo (e' _ (by simp)) _ (by rw [hl]; rfl)) (he hi (e' _ (by simp)) _ (by rw [hh]; rfl))
  · show Walk Tryd.prog ops Q C dr _ r (AS.put _ o.dst _)
    rw [hd, zn4 (by exact zk4 ht)]; exact h
theorem zu18 {t a : Nat} {T : TypeId} {xo lo : Operand} {s : ByteArray} {k1 : IntKind} {y : Int} (h : Walk Tryd.prog ops Q C dr (keepH dr (i, o, ⟨fpO (AS.ev ⟨tm, hp, gn, us, L⟩) o, [], [], .c (.v (.string (cutB s a s.size)))⟩) H) r ⟨upd tm t (.c (.v (.string (cutB s a s.size)))), hp, gn, us, L⟩)
    (hop : ops[i]? = some o := by exact rfl) (ho : o.op = .slice T xo (some lo) none none := by exact rfl) (hT : (Tryd.prog).underlying T = some .string := by exact Tryd.underlying9) (hd : o.dst = some t := by exact rfl) (ht : Nat.blt t L = true := by exact rfl) (hg : gw ops tm o = some true := by exact rfl)
    (hx : AS.ev ⟨tm, hp, gn, us, L⟩ xo = .c (.v (.string s)) := by exact rfl) (hl : AS.ev ⟨tm, hp, gn, us, L⟩ lo = .c (.v (.int k1 y)) := by exact rfl) (hy : y = (a : Int) := by first | assumption | rfl) (h1 : a ≤ s.size := by first | assumption | omega)
    (hc : chk dr ops i o ⟨fpO (AS.ev ⟨tm, hp, gn, us, L⟩) o, [], [], .c (.v (.string (cutB s a s.size)))⟩ H = true := by first | (with_reducible exact zx1) | kernel_rfl) : Walk Tryd.prog ops Q C dr H (i :: r) ⟨tm, hp, gn, us, L⟩ := by
  refine ⟨o, _, hop, zp5 (y := .string (cutB s a s.size)) hop hg rfl fun ev w he => ?_, fun n hn => absurd hn List.not_mem_nil, zd4 hc, zi3 ?_⟩
  · have e : o.op.operands.toList = [xo, lo] := by rw [ho]; rfl
    have e' : ∀ q ∈ [xo, lo], q ∈ o.op.operands := fun q hq => by rw [← e] at hq; exact Array.mem_toList_iff.1 hq
    exact zr18 ho hT hy h1 ev w (he xo (e' _ (by simp)) _ (by rw [hx]; rfl)) (he lo (e' _ (by simp)) _ (by rw [hl]; rfl))
  · show Walk Tryd.prog ops Q C dr _ r (AS.put _ o.dst _)
    rw [hd, zn4 (by exact zk4 ht)]; exact h
theorem zv18 {t b : Nat} {T : TypeId} {xo hi : Operand} {s : ByteArray} {k2 : IntKind} {z : Int} (h : Walk Tryd.prog ops Q C dr (keepH dr (i, o, ⟨fpO (AS.ev ⟨tm, hp, gn, us, L⟩) o, [], [], .c (.v (.string (cutB s 0 b)))⟩) H) r ⟨upd tm t (.c (.v (.string (cutB s 0 b)))), hp, gn, us, L⟩)
    (hop : ops[i]? = some o := by exact rfl) (ho : o.op = .slice T xo none (some hi) none := by exact rfl) (hT : (Tryd.prog).underlying T = some .string := by exact Tryd.underlying9) (hd : o.dst = some t := by exact rfl) (ht : Nat.blt t L = true := by exact rfl) (hg : gw ops tm o = some true := by exact rfl)
    (hx : AS.ev ⟨tm, hp, gn, us, L⟩ xo = .c (.v (.string s)) := by exact rfl) (hh : AS.ev ⟨tm, hp, gn, us, L⟩ hi = .c (.v (.int k2 z)) := by exact rfl) (hz : z = (b : Int) := by first | assumption | rfl) (h2 : b ≤ s.size := by first | assumption | omega)
    (hc : chk dr ops i o ⟨fpO (AS.ev ⟨tm, hp, gn, us, L⟩) o, [], [], .c (.v (.string (cutB s 0 b)))⟩ H = true := by first | (with_reducible exact zx1) | kernel_rfl) : Walk Tryd.prog ops Q C dr H (i :: r) ⟨tm, hp, gn, us, L⟩ := by
  refine ⟨o, _, hop, zp5 (y := .string (cutB s 0 b)) hop hg rfl fun ev w he => ?_, fun n hn => absurd hn List.not_mem_nil, zd4 hc, zi3 ?_⟩
  · have e : o.op.operands.toList = [xo, hi] := by rw [ho]; rfl
    have e' : ∀ q ∈ [xo, hi], q ∈ o.op.operands := fun q hq => by rw [← e] at hq; exact Array.mem_toList_iff.1 hq
    exact zs18 ho hT hz h2 ev w (he xo (e' _ (by simp)) _ (by rw [hx]; rfl)) (he hi (e' _ (by simp)) _ (by rw [hh]; rfl))
  · show Walk Tryd.prog ops Q C dr _ r (AS.put _ o.dst _)
    rw [hd, zn4 (by exact zk4 ht)]; exact h
def ariB : Op → Bool
  | .binOp .add .. => true
  | .binOp .sub .. => true
  | .binOp .mul .. => true
  | .convert .. => true
  | _ => false
theorem ze12 {t : Nat} {z : Int} (h : Walk Tryd.prog ops Q C dr (keepH dr (i, o, ⟨fpO (AS.ev ⟨tm, hp, gn, us, L⟩) o, [], [], .c (.v (.int .i64 z))⟩) H) r ⟨upd tm t (.c (.v (.int .i64 z))), hp, gn, us, L⟩)
    (hop : ops[i]? = some o := by exact rfl) (hb : ariB o.op = true := by exact rfl) (hd : o.dst = some t := by exact rfl) (ht : Nat.blt t L = true := by exact rfl) (hg : gw ops tm o = some true := by exact rfl)
    (he : EffD Tryd.prog o (AS.ev ⟨tm, hp, gn, us, L⟩) hp 0 = some (.c (.v (.int .i64 (IntKind.i64.wrap z))), .nop) := by rfl) (hz : -9223372036854775808 ≤ z ∧ z ≤ 9223372036854775807 := by omega)
    (hc : chk dr ops i o ⟨fpO (AS.ev ⟨tm, hp, gn, us, L⟩) o, [], [], .c (.v (.int .i64 z))⟩ H = true := by first | (with_reducible exact zx1) | kernel_rfl) : Walk Tryd.prog ops Q C dr H (i :: r) ⟨tm, hp, gn, us, L⟩ :=
  w_eq hop hd ht hg he (by rw [show IntKind.i64.wrap z = z by rw [IntKind.wrap_i64]; omega]) hc h
theorem zj16 {P : Program} {s d : TypeId} {xo : Operand} {k : IntKind} {c : Nat} (ho : o.op = .convert s d xo) (hs : P.underlying s = some (.int k)) (hd : P.underlying d = some .string) (hc : c < 128) (ev : Operand → Value) (w : World) (hx : ev xo = .int k (c : Int)) : (execOp ev o).run P w = .ok (.value (.string ⟨#[UInt8.ofNat c]⟩)) w := by
  unfold execOp
  rw [ho]
  have hv : Utf8.valid (c : Int) = true := by
    unfold Utf8.valid
    simp
    omega
  simp [Sem.run_bind, hx, convert, run_underlying hs, run_underlying hd, Conv.intToString, Utf8.encode, hv, show c < 128 from hc]
theorem zp17 {t c : Nat} {s d : TypeId} {xo : Operand} {k : IntKind} (h : Walk Tryd.prog ops Q C dr (keepH dr (i, o, ⟨fpO (AS.ev ⟨tm, hp, gn, us, L⟩) o, [], [], .c (.v (.string ⟨#[UInt8.ofNat c]⟩))⟩) H) r ⟨upd tm t (.c (.v (.string ⟨#[UInt8.ofNat c]⟩))), hp, gn, us, L⟩)
    (hop : ops[i]? = some o := by exact rfl) (ho : o.op = .convert s d xo := by exact rfl) (hd : o.dst = some t := by exact rfl) (ht : Nat.blt t L = true := by exact rfl) (hg : gw ops tm o = some true := by exact rfl)
    (hx : AS.ev ⟨tm, hp, gn, us, L⟩ xo = .c (.v (.int k (c : Int))) := by exact rfl) (hs : (Tryd.prog).underlying s = some (.int k) := by kernel_rfl) (hdd : (Tryd.prog).underlying d = some .string := by kernel_rfl) (hcl : c < 128 := by first | assumption | omega)
    (hc : chk dr ops i o ⟨fpO (AS.ev ⟨tm, hp, gn, us, L⟩) o, [], [], .c (.v (.string ⟨#[UInt8.ofNat c]⟩))⟩ H = true := by first | (with_reducible exact zx1) | kernel_rfl) : Walk Tryd.prog ops Q C dr H (i :: r) ⟨tm, hp, gn, us, L⟩ := by
  refine ⟨o, _, hop, zp5 (y := .string ⟨#[UInt8.ofNat c]⟩) hop hg rfl fun ev w he => ?_, fun n hn => absurd hn List.not_mem_nil, zd4 hc, zi3 ?_⟩
  · have e : o.op.operands = #[xo] := by rw [ho]; rfl
    exact zj16 ho hs hdd hcl ev w (he xo (by rw [e]; simp) _ (by rw [hx]; rfl))
  · show Walk Tryd.prog ops Q C dr _ r (AS.put _ o.dst _)
    rw [hd, zn4 (by exact zk4 ht)]; exact h
end
section
variable {P : Program} {Q : Exit → AS → Prop} {σ : AS}
theorem zf11 {tm : Nat → AV} {t : Nat} {x : AV} (h : tm t = x) : upd tm t x = tm := by
  funext j
  by_cases e : j = t
  · subst e; rw [zu1, h]
  · rw [zn2 _ _ e]
theorem zp {tm : Nat → AV} {hp : Nat → Option Row} {gn L : Nat} {us : List Nat} {x y : Code} {t : Nat} {b : Bool} (hc : tm t = .c (.v (.bool b))) (h1 : b = true → AWp P x Q ⟨upd tm t (.c (.v (.bool true))), hp, gn, us, L⟩) (h2 : b = false → AWp P y Q ⟨upd tm t (.c (.v (.bool false))), hp, gn, us, L⟩) : AWp P (.cond (.tmp t) x y) Q ⟨tm, hp, gn, us, L⟩ := by
  refine zl4 (t := b) hc (fun hb => ?_) fun hb => ?_
  · have := h1 hb
    rwa [zf11 (by rw [hc, hb])] at this
  · have := h2 hb
    rwa [zf11 (by rw [hc, hb])] at this
end
end Go.Proofs.YtnlgmojciplnoaaDoor
