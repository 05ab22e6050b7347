/- The abstract machine: strings indexed and cut; numbers without needless wraps; runes as texts. -/
import Derived.Laws.Strings3
import Derived.Laws.DeepStrings4
import Derived.Test.YtghljnfbbaklnaaEntriesF
namespace Go.Proofs.Ytghljnfbbaklnaa
open Go.RowKit
set_option maxRecDepth 100000
section
variable {ops : Array Oper} {Q : Exit → Act → World → Prop} {C : Ctx} {H H' : List (Nat × Oper × Inf)} {i : Nat} {r : List Nat} {o : Oper} {dr : Bool}
variable {tm : Nat → AV} {hp : Nat → Option Row} {gn L : Nat} {us : List Nat}
def ariB : Op → Bool
  | .binOp .add .. => true
  | .binOp .sub .. => true
  | .binOp .mul .. => true
  | .convert .. => true
  | _ => false
theorem zs17 {t : Nat} {z : Int} (h : Walk Try.prog ops Q C dr (keepH dr (i, o, ⟨fpO (AS.ev ⟨tm, hp, gn, us, L⟩) o, [], [], .c (.v (.int .i64 z))⟩) H) r ⟨upd tm t (.c (.v (.int .i64 z))), hp, gn, us, L⟩)
    (hop : ops[i]? = some o := by exact rfl) (hb : ariB o.op = true := by exact rfl) (hd : o.dst = some t := by exact rfl) (ht : Nat.blt t L = true := by exact rfl) (hg : gw ops tm o = some true := by exact rfl)
    (he : EffD Try.prog o (AS.ev ⟨tm, hp, gn, us, L⟩) hp 0 = some (.c (.v (.int .i64 (IntKind.i64.wrap z))), .nop) := by rfl) (hz : -9223372036854775808 ≤ z ∧ z ≤ 9223372036854775807 := by omega)
    (hc : chk dr ops i o ⟨fpO (AS.ev ⟨tm, hp, gn, us, L⟩) o, [], [], .c (.v (.int .i64 z))⟩ H = true := by first | (with_reducible exact zr1) | kernel_rfl) : Walk Try.prog ops Q C dr H (i :: r) ⟨tm, hp, gn, us, L⟩ :=
  w_eq hop hd ht hg he (by rw [show IntKind.i64.wrap z = z by rw [IntKind.wrap_i64]; omega]) hc h
theorem zt17 {P : Program} {s d : TypeId} {xo : Operand} {k : IntKind} {c : Nat} (ho : o.op = .convert s d xo) (hs : P.underlying s = some (.int k)) (hd : P.underlying d = some .string) (hc : c < 128) (ev : Operand → Value) (w : World) (hx : ev xo = .int k (c : Int)) : (execOp ev o).run P w = .ok (.value (.string ⟨#[UInt8.ofNat c]⟩)) w := by
  unfold execOp
  rw [ho]
  have hv : Utf8.valid (c : Int) = true := by
    unfold Utf8.valid
    simp
    omega
  simp [Sem.run_bind, hx, convert, run_underlying hs, run_underlying hd, Conv.intToString, Utf8.encode, hv, show c < 128 from hc]
theorem zk21 {t c : Nat} {s d : TypeId} {xo : Operand} {k : IntKind} (h : Walk Try.prog ops Q C dr (keepH dr (i, o, ⟨fpO (AS.ev ⟨tm, hp, gn, us, L⟩) o, [], [], .c (.v (.string ⟨#[UInt8.ofNat c]⟩))⟩) H) r ⟨upd tm t (.c (.v (.string ⟨#[UInt8.ofNat c]⟩))), hp, gn, us, L⟩)
    (hop : ops[i]? = some o := by exact rfl) (ho : o.op = .convert s d xo := by exact rfl) (hd : o.dst = some t := by exact rfl) (ht : Nat.blt t L = true := by exact rfl) (hg : gw ops tm o = some true := by exact rfl)
    (hx : AS.ev ⟨tm, hp, gn, us, L⟩ xo = .c (.v (.int k (c : Int))) := by exact rfl) (hs : (Try.prog).underlying s = some (.int k) := by kernel_rfl) (hdd : (Try.prog).underlying d = some .string := by kernel_rfl) (hcl : c < 128 := by first | assumption | omega)
    (hc : chk dr ops i o ⟨fpO (AS.ev ⟨tm, hp, gn, us, L⟩) o, [], [], .c (.v (.string ⟨#[UInt8.ofNat c]⟩))⟩ H = true := by first | (with_reducible exact zr1) | kernel_rfl) : Walk Try.prog ops Q C dr H (i :: r) ⟨tm, hp, gn, us, L⟩ := by
  refine ⟨o, _, hop, zl11 (y := .string ⟨#[UInt8.ofNat c]⟩) hop hg rfl fun ev w he => ?_, fun n hn => absurd hn List.not_mem_nil, zd5 hc, zg4 ?_⟩
  · have e : o.op.operands = #[xo] := by rw [ho]; rfl
    exact zt17 ho hs hdd hcl ev w (he xo (by rw [e]; simp) _ (by rw [hx]; rfl))
  · show Walk Try.prog ops Q C dr _ r (AS.put _ o.dst _)
    rw [hd, zs5 (by exact zm5 ht)]; exact h
theorem zh22 {t : Nat} {c : Call} {fv : Operand} {f : FuncId} {caps : List AC} {args ins : List AV} {par : List AC} {rows : List (List AC)} {res : AV} {nv : AV} {nr : List (Nat × Row)} (lr : Nat) (hctr : Ctr Try.prog f ins [par] res rows) (h : Walk Try.prog ops Q C dr (keepH dr (i, o, callInf ⟨tm, hp, gn, us, L⟩ (args.flatMap snV) [lr] [] (100 * (t + 1)) res rows) H) r ⟨upd tm t nv, updL hp (backU hp [lr] rows ++ [] ++ nr.map (fun p => (p.1, some p.2))), gn, nr.map (·.1) ++ us, L⟩) (hop : ops[i]? = some o := by exact rfl) (hoc : o.op = .call c := by exact rfl) (hcal : c.callee = .value fv := by exact rfl) (hd : o.dst = some t := by exact rfl) (ht : Nat.blt t L = true := by exact rfl) (hg : gw ops tm o = some true := by exact rfl) (hfv : AS.ev ⟨tm, hp, gn, us, L⟩ fv = .c (.fn f caps) := by exact rfl) (hargs : callArgs ⟨tm, hp, gn, us, L⟩ c caps = args := by exact rfl) (hcv : args.map (cvV hp [lr]) = ins := by ((repeat' (first | rfl | exact zu4 | refine zm4 ?_ ?_ | refine ze7 ?_ | refine cv_c ?_ | refine zn4 ?_ ?_ | (refine zt5 ?_; (first | rfl | (simp [cloV, cloL, clo, zo, zn, zp, zl, zk]; done))) | (refine zu5 ?_; (first | rfl | (simp [cloV, cloL, clo, zo, zn, zp, zl, zk]; done))) | refine zv5 ?_ | (refine cvC_sl' (by rfl) (by rfl) (by rfl) (by rfl) ?_ ?_; (focus (first | rfl | (simp [cloV, cloL, clo, zo, zn, zp, zl, zk]; done))); (first | rfl | exact za4 _)))) <;> exact rfl)) (hl : lend hp [lr] = some [par] := by exact zw1 (by rfl) (by first | rfl | (simp [cloV, cloL, clo, zo, zn, zp, zl, zk]; done))) (hRD : ((args.flatMap snV).all fun z => ![lr].contains z) = true := by exact rfl) (hmm : (rofrV res = true ∧ ∀ c ∈ rows, rofrL c = true) ∨ ((args.flatMap snV).all fun z => ([] : List Nat).contains z) = true := by first | exact .inr rfl | exact .inl ⟨by (first | rfl | exact zz1 _ | (simp [rofrV, rofrVL, rofrL, rofr, zz1, zq3, zi3]; done)), za7 (by (first | rfl | exact zz1 _ | (simp [rofrV, rofrVL, rofrL, rofr, zz1, zq3, zi3]; done)))⟩) (hopn : opV (100 * (t + 1)) res = (nv, nr) := by exact rfl) (hf : (nr.all fun p => Nat.ble gn p.1 && !us.contains p.1) = true := by exact rfl) (hc : chk dr ops i o (callInf ⟨tm, hp, gn, us, L⟩ (args.flatMap snV) [lr] [] (100 * (t + 1)) res rows) H = true := by first | (with_reducible exact zr1) | kernel_rfl) : Walk Try.prog ops Q C dr H (i :: r) ⟨tm, hp, gn, us, L⟩ :=
  zd12 (100 * (t + 1)) [lr] [] hop hoc hcal hd ht hg hfv hargs hl (by rw [hcv]; exact hctr) hRD rfl hmm hopn hf hc h
end
section
variable {P : Program} {Q : Exit → AS → Prop} {σ : AS}
theorem zj12 {tm : Nat → AV} {t : Nat} {x : AV} (h : tm t = x) : upd tm t x = tm := by
  funext j
  by_cases e : j = t
  · subst e; rw [zw, h]
  · rw [zk1 _ _ e]
theorem zu1 {tm : Nat → AV} {hp : Nat → Option Row} {gn L : Nat} {us : List Nat} {x y : Code} {t : Nat} {b : Bool} (hc : tm t = .c (.v (.bool b))) (h1 : b = true → AWp P x Q ⟨upd tm t (.c (.v (.bool true))), hp, gn, us, L⟩) (h2 : b = false → AWp P y Q ⟨upd tm t (.c (.v (.bool false))), hp, gn, us, L⟩) : AWp P (.cond (.tmp t) x y) Q ⟨tm, hp, gn, us, L⟩ := by
  refine zn1 (t := b) hc (fun hb => ?_) fun hb => ?_
  · have := h1 hb
    rwa [zj12 (by rw [hc, hb])] at this
  · have := h2 hb
    rwa [zj12 (by rw [hc, hb])] at this
end
end Go.Proofs.Ytghljnfbbaklnaa
