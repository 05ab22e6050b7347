/- The abstract machine, nine: scalars, closures, parts of slices; all operations but calls. -/
import Derived.Test.YtfnnbjkjfoiboaaA8
import Derived.Laws.BytesArg
namespace Go.Proofs.Ytfnnbjkjfoiboaa
open Go.RowKit

def notSel : Op → Bool
  | .select .. => false
  | _ => true
def aScal (P : Program) (ev : Operand → AV) (o : Oper) : Option AV :=
  if notSel o.op = true ∧ (∀ x ∈ o.op.operands, (ev x).val?.isSome = true) then
    match Semval P (execOp (fun x => ((ev x).val?).getD undef) o) with
    | some (.value v) => some (ofV v)
    | _ => none
  else none
def cellsOne : List AV → Option (List AC)
  | [] => some []
  | .c x :: r => (cellsOne r).map (x :: ·)
  | _ :: _ => none
def aFunc (f : FuncId) (caps : List AV) : Option AV := (cellsOne caps).map fun cs => .c (.fn f cs)
def bytesL : List AC → Option (List UInt8)
  | [] => some []
  | .v (.int .u8 n) :: r => (bytesL r).map (UInt8.ofNat n.toNat :: ·)
  | _ :: _ => none
/-- A bound of a part. -/
def bnd (d : Nat) : Option AV → Option Nat
  | none => some d
  | some (.c (.v (.int _ n))) => if 0 ≤ n then some n.toNat else none
  | _ => none
def aSlice (P : Program) (σ : AS) (id : Nat) (T : TypeId) (x : AV) (lo hi : Option AV) : Option (AV × AS) :=
  match P.underlying T with
  | some (.slice e) =>
    match (P.info? e).map (·.size) with
    | some k =>
      match x with
      | .c (.ro n k' l) =>
        match bnd 0 lo, bnd n hi with
        | some a, some b => if k' = k ∧ a ≤ b ∧ b ≤ n then some (.c (.ro (b - a) k (subL l (a * k) ((b - a) * k))), σ) else none
        | _, _ => none
      | .c (.sl i n) =>
        match bnd 0 lo, bnd n hi, σ.hp i with
        | some 0, some b, some r => if r.k = k ∧ r.n = n ∧ r.box = false ∧ b ≤ n ∧ σ.gn ≤ id ∧ id ∉ σ.us then some (.c (.sl id b), (σ.set i none).grow id ⟨r.T, k, b, false, r.cs.take (b * k)⟩) else none
        | _, _, _ => none
      | _ => none
    | none => none
  | _ => none
/-- string(bytes) -/
def aStr (P : Program) (hp : Nat → Option Row) (s d : TypeId) (x : AV) : Option AV :=
  match P.underlying s, P.underlying d with
  | some (.slice e), some .string =>
    match P.underlying e with
    | some (.int .u8) =>
      match srcOf hp 1 x with
      | some (_, cs) => (bytesL cs).map fun bs => .c (.v (.string ⟨bs.toArray⟩))
      | none => none
    | _ => none
  | _, _ => none
def isStr : AV → Bool
  | .c (.v (.string _)) => true
  | _ => false
section
variable {P : Program} {C : Ctx} {φ : Nat → Lc} {F : Nat → List Nat} {St : Nat → Prop} {σ : AS} {a : Act} {w : World}
theorem aScal_to (h : SimF C φ F St σ a w) {o : Oper} {x : AV} (he : aScal P σ.ev o = some x) : ∃ v, (execOp a.eval o).run P w = .ok (.value v) w ∧ VR w St φ σ.Kn x v := by
  unfold aScal at he
  split at he
  · rename_i hc
    split at he
    · rename_i v hv
      injection he with he; subst he
      refine ⟨v, ?_, ofV_VR v⟩
      have : execOp a.eval o = execOp (fun x => ((σ.ev x).val?).getD undef) o := by
        refine execOp_congr o (fun cs b e => by have := hc.1; rw [e] at this; cases this) fun x hx => ?_
        obtain ⟨y, hy⟩ := Option.isSome_iff_exists.1 (hc.2 x hx)
        rw [hy]
        exact val_eq hy (h.ev x)
      rw [this]
      exact run_of_val w hv
    · cases he
  · cases he
theorem cellsOne_to {K : Nat → Prop} : ∀ {l : List AV} {us : List Value} {cs : List AC}, VRL w St φ K l us → cellsOne l = some cs → CRL w St φ K cs us []
  | [], us, cs, h, he => by simp only [cellsOne, Option.some.injEq] at he; simp only [VRL] at h; subst he h; exact CRL.nil
  | .c x :: r, us, cs, h, he => by
    simp only [cellsOne, Option.map_eq_some_iff] at he
    obtain ⟨cs', h1, rfl⟩ := he
    simp only [VRL] at h
    obtain ⟨u, us', rfl, h2, h3⟩ := h
    simp only [VR] at h2
    exact CRL.cons (f := []) (f' := []) h2 (cellsOne_to h3 h1)
  | .ag _ :: _, _, _, _, he | .tu _ :: _, _, _, _, he => by simp [cellsOne] at he
theorem evs (h : SimF C φ F St σ a w) : ∀ l : List Operand, VRL w St φ σ.Kn (l.map σ.ev) (l.map a.eval)
  | [] => by simp [VRL]
  | x :: r => by simp only [List.map_cons, VRL]; exact ⟨_, _, rfl, h.ev x, evs h r⟩
theorem prl (h : SimF C φ F St σ a w) : ∀ l : List (Nat × Operand), PRL w St φ σ.Kn (l.map fun p => (p.1, σ.ev p.2)) (l.map fun p => (p.1, a.eval p.2))
  | [] => by simp [PRL]
  | x :: r => by simp only [List.map_cons, PRL]; exact ⟨_, _, rfl, h.ev x.2, prl h r⟩
theorem bytesL_to {K : Nat → Prop} : ∀ {cs : List AC} {us : List Value} {fp : List Nat} {bs : List UInt8}, CRL w St φ K cs us fp → bytesL cs = some bs → ∃ ns : List Int, us = ns.map (Value.int .u8) ∧ bs = ns.map fun n => UInt8.ofNat n.toNat
  | [], us, fp, bs, h, he => by simp only [bytesL, Option.some.injEq] at he; simp only [CRL] at h; exact ⟨[], h.1, by rw [← he]; rfl⟩
  | .v (.int .u8 n) :: r, us, fp, bs, h, he => by
    simp only [bytesL, Option.map_eq_some_iff] at he
    obtain ⟨bs', h1, rfl⟩ := he
    simp only [CRL, CR] at h
    obtain ⟨u, us', f1, f2, rfl, _, ⟨rfl, _⟩, h4⟩ := h
    obtain ⟨ns, rfl, rfl⟩ := bytesL_to h4 h1
    exact ⟨n :: ns, rfl, rfl⟩
  | .v (.int .i8 _) :: _, _, _, _, _, he | .v (.int .i16 _) :: _, _, _, _, _, he | .v (.int .i32 _) :: _, _, _, _, _, he | .v (.int .i64 _) :: _, _, _, _, _, he | .v (.int .u16 _) :: _, _, _, _, _, he | .v (.int .u32 _) :: _, _, _, _, _, he | .v (.int .u64 _) :: _, _, _, _, _, he
  | .v (.bool _) :: _, _, _, _, _, he | .v (.float ..) :: _, _, _, _, _, he | .v (.complex ..) :: _, _, _, _, _, he | .v (.string _) :: _, _, _, _, _, he | .v (.pointer _) :: _, _, _, _, _, he | .v (.slice ..) :: _, _, _, _, _, he | .v (.map _) :: _, _, _, _, _, he | .v (.chan _) :: _, _, _, _, _, he | .v (.func ..) :: _, _, _, _, _, he | .v .nilFunc :: _, _, _, _, _, he | .v (.iface ..) :: _, _, _, _, _, he | .v .nilIface :: _, _, _, _, _, he | .v (.agg _) :: _, _, _, _, _, he | .v (.tuple _) :: _, _, _, _, _, he
  | .ro .. :: _, _, _, _, _, he | .ow .. :: _, _, _, _, _, he | .sl .. :: _, _, _, _, _, he | .pt .. :: _, _, _, _, _, he | .rp .. :: _, _, _, _, _, he | .fn .. :: _, _, _, _, _, he | .bx .. :: _, _, _, _, _, he | .un :: _, _, _, _, _, he => by simp [bytesL] at he
theorem aStr_to (h : SimF C φ F St σ a w) {s d : TypeId} {x y : AV} {u : Value} (hx : VR w St φ σ.Kn x u) (hns : isStr x = false) (he : aStr P σ.hp s d x = some y) : ∃ v, (convert s d u).run P w = .ok v w ∧ VR w St φ σ.Kn y v := by
  unfold aStr at he
  split at he
  · rename_i e hs hd
    split at he
    · rename_i hu
      split at he
      · rename_i m cs hsrc
        simp only [Option.map_eq_some_iff] at he
        obtain ⟨bs, hb, rfl⟩ := he
        have hsl : ∃ A c, u = .slice A m c := by
          unfold srcOf at hsrc
          split at hsrc
          · simp only [Option.bind_eq_some_iff] at hsrc
            obtain ⟨r, _, hsrc⟩ := hsrc
            split at hsrc
            · injection hsrc with hsrc; injection hsrc with e1 _; subst e1
              simp only [VR, CR] at hx; obtain ⟨_, _, _, A, c, rfl⟩ := hx; exact ⟨A, c, rfl⟩
            · cases hsrc
          · split at hsrc
            · injection hsrc with hsrc; injection hsrc with e1 _; subst e1
              simp only [VR, CR] at hx; obtain ⟨_, A, c, rfl, _⟩ := hx; exact ⟨A, c, rfl⟩
            · cases hsrc
          · injection hsrc with hsrc; injection hsrc with e1 _; subst e1
            simp only [VR, CR] at hx; obtain ⟨rfl, _⟩ := hx; exact ⟨none, 0, rfl⟩
          · simp [isStr] at hns
          · cases hsrc
        obtain ⟨us, s1, s2, s3, s4⟩ := src_run (P := P) h (by omega) hx hsrc
        obtain ⟨ns, rfl, rfl⟩ := bytesL_to s1 hb
        obtain ⟨A, c, rfl⟩ := hsl
        refine ⟨.string ⟨(ns.map fun n => UInt8.ofNat n.toNat).toArray⟩, ?_, by simp only [VR, CR]; exact ⟨trivial, rfl, trivial⟩⟩
        rw [run_convert_bytes_string w s d e A m c hs hu hd]
        have hf := s4 w rfl
        rcases A with _ | ad
        · have : ns = [] := by
            have h2 : (Builtin.firstCells 1 m (.slice none m c)).run P w = .ok #[] w := rfl
            rw [h2] at hf
            injection hf with hf
            have := congrArg Array.size hf
            simp at this
            exact List.eq_nil_of_length_eq_zero this.symm
          subst this
          rfl
        · have h2 : (loadCells ad m).run P w = .ok (ns.map (Value.int .u8)).toArray w := by
            have := hf
            simp only [Builtin.firstCells, Nat.mul_one] at this
            exact this
          rw [run_bytesToString w ad m c ns h2, foldl_push_bytes]
          simp [ByteArray.empty, ByteArray.emptyWithCapacity]
          rfl
      · cases he
    · cases he
  · cases he
theorem bnd_to {K : Nat → Prop} {d n : Nat} {x : Option AV} {u : Option Value} (hx : match x, u with | none, none => True | some y, some v => VR w St φ K y v | _, _ => False) (he : bnd d x = some n) :
    (x = none ∧ u = none ∧ n = d) ∨ ∃ k, u = some (.int k n) := by
  unfold bnd at he
  split at he
  · cases u with
    | none => injection he with he; exact .inl ⟨rfl, rfl, he.symm⟩
    | some v => exact hx.elim
  · rename_i kd m
    cases u with
    | none => exact hx.elim
    | some v =>
      simp only [VR, CR] at hx
      obtain ⟨rfl, _⟩ := hx
      split at he
      · rename_i h0
        injection he with he
        exact .inr ⟨kd, by rw [← he, Int.toNat_of_nonneg h0]⟩
      · cases he
  · cases he
theorem slice_run {T e : TypeId} {i : TypeInfo} (hT : P.underlying T = some (.slice e)) (hi : P.info? e = some i) {A : Option Addr} {n c a b : Nat} {lo hi' : Option Value} (hlo : (lo = none ∧ a = 0) ∨ ∃ k, lo = some (.int k a)) (hhi : (hi' = none ∧ b = n) ∨ ∃ k, hi' = some (.int k b)) (h1 : a ≤ b) (h2 : b ≤ n) (h3 : n ≤ c) :
    (Instr.sliceAt T (.slice A n c) lo hi' none).run P w = .ok (.slice (if c = a then A else A.map (·.add (a * i.size))) (b - a) (c - a)) w := by
  have g1 : ∀ (k : IntKind) (y m : Nat) (code : BoundsCode), y ≤ m → (Instr.sliceBound (.int k (y : Int)) m code).run P w = .ok y w := fun k y m code hy => by
    simp [Instr.sliceBound, asIntOf, show (0 : Int) ≤ (y : Int) by omega, hy]
  rcases hlo with ⟨rfl, rfl⟩ | ⟨k1, rfl⟩ <;> rcases hhi with ⟨rfl, rfl⟩ | ⟨k2, rfl⟩
  · simp [Instr.sliceAt, Instr.slice, Instr.sliceBounds, run_underlying hT, sizeOf, typeInfo, hi]
  · simp [Instr.sliceAt, Instr.slice, Instr.sliceBounds, run_underlying hT, sizeOf, typeInfo, hi, g1 k2 b c _ (by omega)]
  · simp [Instr.sliceAt, Instr.slice, Instr.sliceBounds, run_underlying hT, sizeOf, typeInfo, hi, g1 k1 a b _ (by omega)]
  · simp [Instr.sliceAt, Instr.slice, Instr.sliceBounds, run_underlying hT, sizeOf, typeInfo, hi, g1 k2 b c _ (by omega), g1 k1 a b _ (by omega)]
theorem aSlice_to (h : SimF C φ F St σ a w) {id : Nat} {T : TypeId} {x y : AV} {u : Value} {lo hi : Option AV} {ulo uhi : Option Value} {σ' : AS} (hx : VR w St φ σ.Kn x u)
    (hlo : match lo, ulo with | none, none => True | some y, some v => VR w St φ σ.Kn y v | _, _ => False) (hhi : match hi, uhi with | none, none => True | some y, some v => VR w St φ σ.Kn y v | _, _ => False)
    (he : aSlice P σ id T x lo hi = some (y, σ')) : ∃ v w', (Instr.sliceAt T u ulo uhi none).run P w = .ok v w' ∧ PostS C σ' a y v w' := by
  unfold aSlice at he
  split at he
  · rename_i e hT
    split at he
    · rename_i k hk
      simp only [Option.map_eq_some_iff] at hk
      obtain ⟨inf, hinf, rfl⟩ := hk
      split at he
      · rename_i n k' l
        split at he
        · rename_i p q hp hq
          split at he
          · rename_i hc
            obtain ⟨rfl, h1, h2⟩ := hc
            injection he with he; injection he with e1 e2; subst e1 e2
            simp only [VR, CR] at hx
            obtain ⟨_, A, c, rfl, hcap, hl, hcell⟩ := hx
            have b1 := bnd_to hlo hp
            have b2 := bnd_to hhi hq
            refine ⟨_, _, slice_run hT hinf (a := p) (b := q) (b1.elim (fun g => .inl ⟨g.2.1, g.2.2⟩) .inr) (b2.elim (fun g => .inl ⟨g.2.1, g.2.2⟩) .inr) h1 h2 hcap.1, φ, F, St, h, ?_⟩
            simp only [VR, CR]
            refine ⟨trivial, _, _, rfl, ⟨by omega, by omega, fun hA => ?_⟩, ?_, fun hpos => ?_⟩
            · have hA' : A = none := by
                split at hA
                · exact hA
                · cases A with
                  | none => rfl
                  | some _ => simp at hA
              have := hcap.2.2 hA'; omega
            · unfold subL
              rw [List.length_take, List.length_drop, hl, ← Nat.sub_mul, Nat.min_eq_left (Nat.mul_le_mul_right _ (by omega))]
            · obtain ⟨b, o, us, rfl, s1, s2, s3, s4⟩ := hcell (by omega)
              obtain ⟨fs', g3⟩ := s4.sub (p * inf.size) ((q - p) * inf.size)
              have hne : c ≠ p := by omega
              have g4 : CRL w St φ σ.Kn (subL l (p * inf.size) ((q - p) * inf.size)) ((us.drop (p * inf.size)).take ((q - p) * inf.size)) [] := by
                have e : l = l.take (p * inf.size) ++ (subL l (p * inf.size) ((q - p) * inf.size) ++ (l.drop (p * inf.size)).drop ((q - p) * inf.size)) := by
                  unfold subL; rw [List.take_append_drop, List.take_append_drop]
                rw [e] at s4
                obtain ⟨u1, u2, f1, f2, e1, e2, g1, g2⟩ := s4.split
                obtain ⟨u3, u4, f3, f4, e3, e4, g5, g6⟩ := g2.split
                subst e1 e3
                have l1 := g1.len
                have l3 := g5.len
                have lp : p * inf.size ≤ l.length := by rw [hl]; exact Nat.mul_le_mul_right _ (by omega)
                have lq : (q - p) * inf.size ≤ (l.drop (p * inf.size)).length := by rw [List.length_drop, hl, ← Nat.sub_mul]; exact Nat.mul_le_mul_right _ (by omega)
                rw [List.length_take, Nat.min_eq_left lp] at l1
                unfold subL at l3
                rw [List.length_take, Nat.min_eq_left lq] at l3
                have d1 : (u1 ++ (u3 ++ u4)).drop (p * inf.size) = u3 ++ u4 := by rw [← l1, List.drop_left]
                have d2 : (u3 ++ u4).take ((q - p) * inf.size) = u3 := by rw [← l3, List.take_left]
                rw [d1, d2]
                have : f3 = [] := by
                  have h5 := List.append_eq_nil_iff.1 e2.symm
                  have h6 := List.append_eq_nil_iff.1 (e4 ▸ h5.2)
                  exact h6.1
                rw [this] at g5
                exact g5
              refine ⟨b, o + p * inf.size, _, ?_, s1, s2, sub_cell s3, g4⟩
              rw [if_neg hne]; simp [Addr.add_lit]
          · cases he
        · cases he
      · rename_i i n
        split at he
        · rename_i b r hp hq hr
          split at he
          · rename_i hc
            obtain ⟨hk, rfl, hbx, h2, h3, h4⟩ := hc
            injection he with he; injection he with e1 e2; subst e1 e2
            simp only [VR, CR] at hx
            obtain ⟨_, _, eφ, A, c, rfl⟩ := hx
            have hrow := (h.row i r hr).2
            rw [eφ] at hrow
            obtain ⟨_, us, fs, g1, g2, g3⟩ := hrow
            have b1 := bnd_to hlo hp
            have b2 := bnd_to hhi hq
            have hcap : r.n ≤ c ∧ (A = none → c = 0) := by
              rcases g2.2 with ⟨hv, hn⟩ | ⟨g, cap, cur, hv, _, _, hn, _⟩
              · injection hv with _ _ hv3; exact ⟨by omega, fun _ => hv3⟩
              · injection hv with hv1 _ hv3; exact ⟨by omega, fun e => by rw [hv1] at e; cases e⟩
            refine ⟨_, _, slice_run hT hinf (a := 0) (b := b) (b1.elim (fun g => .inl ⟨g.2.1, rfl⟩) .inr) (b2.elim (fun g => .inl ⟨g.2.1, g.2.2⟩) .inr) (Nat.zero_le _) h2 hcap.1, ?_⟩
            have hd := h.drop i
            have hnd := h.nod i r hr
            rw [g3] at hnd
            have hfree : ∀ b ∈ F i, Free C φ F St { σ with hp := upd σ.hp i none } b := fun b hb => h.free hr hb
            have e : r.cs = r.cs.take (b * r.k) ++ r.cs.drop (b * r.k) := (List.take_append_drop _ _).symm
            have hlr := g1.len
            rw [e] at g1
            obtain ⟨u1, u2, f1, f2, e1, e2, g5, g6⟩ := g1.split
            subst e1 e2
            have hval : (Value.slice (if c = 0 then A else A.map (·.add (0 * inf.size))) (b - 0) (c - 0)) = .slice A b c := by
              have : A.map (·.add (0 * inf.size)) = A := by cases A <;> simp [Addr.add]
              rw [this]; simp
            rw [hval]
            have l5 := g5.len
            have ho : obl (.slice A b c) = obl (.slice A r.n c) := by cases A <;> rfl
            have hown : w.ownsRow 0 r.T r.k (.slice A b c) b u1 := by
              obtain ⟨q1, q2⟩ := g2
              have hlu : u1.length = b * r.k := by
                rw [l5, List.length_take, ← hlr, q1, Nat.min_eq_left (Nat.mul_le_mul_right _ h2)]
              refine ⟨hlu, ?_⟩
              rcases q2 with ⟨hv, hn⟩ | ⟨g, cap, cur, hv, hz, hh, hn, hc, hs, ht⟩
              · injection hv with hv1 hv2 hv3
                have : b = 0 := by omega
                exact .inl ⟨by rw [hv1, hv3, this], this⟩
              · injection hv with hv1 hv2 hv3
                refine .inr ⟨g, cap, cur, by rw [hv1, hv3], hz, hh, by omega, hc, hs, ?_⟩
                have := congrArg (List.take (b * r.k)) ht
                rw [List.take_take, Nat.min_eq_left (Nat.mul_le_mul_right _ h2), ← hlu, List.take_left] at this
                rw [← hlu]; exact this
            refine hd.newSlice (id := id) h3 h4 (b0 := none) (Stp.refl _ _) (fun b hb => by cases hb) (by rw [← hk]; exact g5) (fun b hb => by simp) (by rw [← hk]; exact hown) ?_ (fun q hq => .inr (hfree q ?_))
            · exact hnd.sublist (by rw [ho]; exact List.Sublist.append_left (List.sublist_append_left f1 f2) _)
            · rw [g3]
              rw [ho] at hq
              rcases List.mem_append.1 hq with hq | hq
              · exact List.mem_append_left _ hq
              · exact List.mem_append_right _ (List.mem_append_left _ hq)
          · cases he
        · cases he
      · cases he
    · cases he
  · cases he
end
end Go.Proofs.Ytfnnbjkjfoiboaa
