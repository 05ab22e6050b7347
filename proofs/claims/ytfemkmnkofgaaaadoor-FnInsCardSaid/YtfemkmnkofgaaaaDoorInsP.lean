/- Contracts of the older kind over bytes, as contracts of the machine: PutU, PutIns, GetU, GetIns of both sides. -/
import Derived.Test.YtfemkmnkofgaaaaDoorInsO
namespace Go.Proofs.YtfemkmnkofgaaaaDoor
open Go.RowKit
set_option maxRecDepth 100000
theorem zy12 {w : World} {St : Nat → Prop} {φ : Nat → Lc} {K : Nat → Prop} : ∀ {bs : List UInt8} {us : List Value} {fp : List Nat}, CRL w St φ K (bytC bs) us fp → us = bs.map fun b => .int .u8 b.toNat
  | [], us, fp, h => by
    have h' : CRL w St φ K [] us fp := h
    simp only [CRL] at h'
    exact h'.1
  | b :: r, us, fp, h => by
    have h' : CRL w St φ K (.v (.int .u8 b.toNat) :: bytC r) us fp := h
    simp only [CRL] at h'
    obtain ⟨u, us', f1, f2, rfl, rfl, h1, h2⟩ := h'
    simp only [CR] at h1
    obtain ⟨rfl, -⟩ := h1
    rw [zy12 h2]
    rfl
theorem zz12 {w : World} {St : Nat → Prop} {φ : Nat → Lc} {K : Nat → Prop} : ∀ bs : List UInt8, CRL w St φ K (bytC bs) (bs.flatMap encB) []
  | [] => CRL.nil
  | b :: r => by
    show CRL w St φ K (.v (.int .u8 b.toNat) :: bytC r) (.int .u8 b.toNat :: r.flatMap encB) ([] ++ [])
    exact CRL.cons (by simp only [CR]; exact ⟨trivial, rfl, trivial⟩) (zz12 r)
theorem za13 {w : World} {St : Nat → Prop} {φ : Nat → Lc} {K : Nat → Prop} {u : Value} {bs : List UInt8} (h : VR w St φ K (.c (.ro bs.length 1 (bytC bs))) u) : ∃ A c, u = .slice A bs.length c ∧ Rd w 1 encB (.slice A bs.length c) bs := by
  simp only [VR, CR] at h
  obtain ⟨-, A, c, rfl, ⟨h1, h2, h3⟩, h4, h5⟩ := h
  refine ⟨A, c, rfl, A, c, rfl, h1, ⟨h2, h3⟩, fun hn => ?_⟩
  obtain ⟨b, o, us, rfl, -, hlt, hc, hcr⟩ := h5 hn
  refine ⟨b, o, rfl, Nat.zero_le _, hlt, fun i hi j u hu => ?_⟩
  have hus := zy12 hcr
  have hj : j = 0 ∧ u = .int .u8 bs[i].toNat := by
    cases j with
    | zero => simp [encB] at hu; exact ⟨rfl, hu.symm⟩
    | succ j => simp [encB] at hu
  obtain ⟨rfl, rfl⟩ := hj
  have := hc i (.int .u8 bs[i].toNat) (by rw [hus, List.getElem?_map, List.getElem?_eq_getElem hi]; rfl)
  rw [Nat.mul_one, Nat.add_zero]
  exact this
theorem zg11 {P : Program} {f : FuncId} {ins : List AV} {T : TypeId} {out : List UInt8} (he : entB P f = true)
    (hc : ∀ (w : World) (St : Nat → Prop) (φ : Nat → Lc) (K : Nat → Prop) (us : List Value), VRL w St φ K ins us → Calls P f us.toArray w fun x w' => ∃ v, x = .returned v ∧ Own w' w.heap.size w'.heap.size T 1 encB v out ∧ Below w.heap.size w w') :
    Ctr P f ins [] (.c (.ow T out.length 1 (bytC out))) [] := by
  refine ⟨he, fun w St φ F us' hent => ?_⟩
  refine (hc w St φ _ us' hent.args).mono ?_
  rintro x w' ⟨v, rfl, ho, hb⟩
  have h0 : w'.ownsRow 0 T 1 v out.length (out.flatMap encB) ∧ ∀ b ∈ obl v, w.heap.size ≤ b := by
    obtain ⟨⟨hl, h | ⟨g, cap, cur, rfl, hg, hh⟩⟩, hB⟩ := ho
    · refine ⟨⟨hl, .inl h⟩, fun b hb => ?_⟩
      obtain ⟨rfl, -⟩ := h
      simp [obl, Value.ownBlock] at hb
    · refine ⟨⟨hl, .inr ⟨g, cap, cur, rfl, Nat.zero_le _, hh⟩⟩, fun b hb => ?_⟩
      simp [obl, Value.ownBlock] at hb
      omega
  have hnd : (obl v).Nodup := by
    unfold obl
    split <;> simp
  refine ⟨_, _, v, fun _ => False, fun _ => [], obl v, ⟨rfl, rfl⟩, rfl, ⟨⟨hb.os, hb.tape, hb.output, hb.size, fun b hlt _ => .inl (hb.block b hlt)⟩, ?_, hnd, rfl, fun i cs hi => by simp at hi, fun i hi => by simp at hi, fun i hi => by simp at hi, fun i j hi => by simp at hi, fun i b lo hi => by simp at hi, fun b hb => ?_, fun b hb => hb.elim⟩⟩
  · simp only [VRF, CR]
    exact ⟨_, [], zz12 out, h0.1, by simp⟩
  · rcases hb with hb | ⟨i, hi, _⟩
    · exact .inr (h0.2 b hb)
    · simp at hi
theorem zh11 {P : Program} {f : FuncId} {ins : List AV} {v : Value} {res : AV} (he : entB P f = true) (hv : ∀ w : World, VRF w (fun _ => False) φ0 K0 res v [])
    (hc : ∀ (w : World) (St : Nat → Prop) (φ : Nat → Lc) (K : Nat → Prop) (us : List Value), VRL w St φ K ins us → Calls P f us.toArray w fun e w' => e = .returned v ∧ Below w.heap.size w w') : Ctr P f ins [] res [] := by
  refine ⟨he, fun w St φ F us' hent => ?_⟩
  refine (hc w St φ _ us' hent.args).mono ?_
  rintro e w' ⟨rfl, hb⟩
  exact ⟨_, _, v, fun _ => False, fun _ => [], [], ⟨rfl, rfl⟩, rfl, ⟨⟨hb.os, hb.tape, hb.output, hb.size, fun b hlt _ => .inl (hb.block b hlt)⟩, hv w', by simp, rfl, fun i cs hi => by simp at hi, fun i hi => by simp at hi, fun i hi => by simp at hi, fun i j hi => by simp at hi, fun i b lo hi => by simp at hi, fun b hb => by simp at hb, fun b hb => hb.elim⟩⟩
theorem zb19 {w : World} {St : Nat → Prop} {φ : Nat → Lc} {K : Nat → Prop} {x : Value} {l : List AV} {us : List Value} (hx : scal x = true) (h : VRFL w St φ K l us []) : VRFL w St φ K (.c (.v x) :: l) (x :: us) [] := by
  simp only [VRFL]
  exact ⟨x, us, [], [], rfl, rfl, by simp only [VRF, CR]; exact ⟨trivial, hx, trivial⟩, h⟩
theorem zm16 {w : World} {St : Nat → Prop} {φ : Nat → Lc} {K : Nat → Prop} {o n p : Int} {b : Bool} : VRF w St φ K (.tu [.ag [.v (.int .i64 o), .v (.int .i64 n)], .c (.v (.int .i64 p)), .c (.v (.bool b))]) (.tuple #[.agg #[.int .i64 o, .int .i64 n], .int .i64 p, .bool b]) [] := by
  simp only [VRF]
  refine ⟨[.agg #[.int .i64 o, .int .i64 n], .int .i64 p, .bool b], rfl, ?_⟩
  have h2 : VRFL w St φ K [.c (.v (.int .i64 p)), .c (.v (.bool b))] [.int .i64 p, .bool b] [] := zb19 rfl (zb19 rfl (by simp only [VRFL]; exact ⟨trivial, trivial⟩))
  rw [VRFL]
  refine ⟨.agg #[.int .i64 o, .int .i64 n], _, [], [], rfl, rfl, ?_, h2⟩
  simp only [VRF]
  refine ⟨[.int .i64 o, .int .i64 n], rfl, ?_⟩
  exact CRL.cons (f := []) (f' := []) (by simp only [CR]; exact ⟨trivial, rfl, trivial⟩) (CRL.cons (f := []) (f' := []) (by simp only [CR]; exact ⟨trivial, rfl, trivial⟩) CRL.nil)
theorem zz6 {bs : List UInt8} (at_ : Int) (hat : -9223372036854775808 ≤ at_ ∧ at_ ≤ 9223372036854775807) (hn : bs.length ≤ 1073741824) : Ctr Tryd.prog 10 [.c (.ro bs.length 1 (bytC bs)), .c (.v (.int .i64 at_))] [] (.tu [.ag [.v (.int .i64 (getIns bs at_).o), .v (.int .i64 (getIns bs at_).n)], .c (.v (.int .i64 (getIns bs at_).p)), .c (.v (.bool (getIns bs at_).ok))]) [] := by
  refine zh11 (by kernel_rfl) (fun w => zm16) fun w St φ K us h => ?_
  simp only [VRL] at h
  obtain ⟨u, us1, rfl, h1, u2, us2, rfl, h2, rfl⟩ := h
  obtain ⟨A, c, rfl, hrd⟩ := za13 h1
  simp only [VR, CR] at h2
  obtain ⟨rfl, -⟩ := h2
  refine (zd9 A bs.length c bs at_ w hrd hat hn).mono ?_
  rintro e w' ⟨rfl, h⟩
  exact ⟨rfl, by first | exact h | (subst h; exact Below.refl _ _)⟩
theorem zn5 {bs : List UInt8} (o n : Int) (hn : bs.length ≤ 1048577) : Ctr Tryd.prog 13 [.c (.ro bs.length 1 (bytC bs)), .ag [.v (.int .i64 o), .v (.int .i64 n)]] [] (.c (.ow 5 (bs ++ putIns o n).length 1 (bytC (bs ++ putIns o n)))) [] := by
  refine zg11 (by kernel_rfl) fun w St φ K us h => ?_
  simp only [VRL] at h
  obtain ⟨u, us1, rfl, h1, u2, us2, rfl, h2, rfl⟩ := h
  obtain ⟨A, c, rfl, hrd⟩ := za13 h1
  simp only [VR, CRL, CR] at h2
  obtain ⟨vs, rfl, v1, r1, f1, f1', rfl, e1, ⟨rfl, -, rfl⟩, v2, r2, f2, f2', rfl, rfl, ⟨rfl, -, rfl⟩, rfl, -⟩ := h2
  exact zb9 A bs.length c bs o n w hrd hn
theorem zi11 {bs : List UInt8} (at_ : Int) (hat : -9223372036854775808 ≤ at_ ∧ at_ ≤ 9223372036854775807) (hn : bs.length ≤ 1073741824) : Ctr Tryd.prog 11 [.c (.ro bs.length 1 (bytC bs)), .c (.v (.int .i64 at_))] [] (.tu [.ag [.v (.int .i64 (getIns bs at_).o), .v (.int .i64 (getIns bs at_).n)], .c (.v (.int .i64 (getIns bs at_).p)), .c (.v (.bool (getIns bs at_).ok))]) [] := by
  refine zh11 (by kernel_rfl) (fun w => zm16) fun w St φ K us h => ?_
  simp only [VRL] at h
  obtain ⟨u, us1, rfl, h1, u2, us2, rfl, h2, rfl⟩ := h
  obtain ⟨A, c, rfl, hrd⟩ := za13 h1
  simp only [VR, CR] at h2
  obtain ⟨rfl, -⟩ := h2
  refine (zc9 A bs.length c bs at_ w hrd hat hn).mono ?_
  rintro e w' ⟨rfl, h⟩
  exact ⟨rfl, by first | exact h | (subst h; exact Below.refl _ _)⟩
theorem zj11 {bs : List UInt8} (o n : Int) (hn : bs.length ≤ 1048577) : Ctr Tryd.prog 38 [.c (.ro bs.length 1 (bytC bs)), .ag [.v (.int .i64 o), .v (.int .i64 n)]] [] (.c (.ow 5 (bs ++ putIns o n).length 1 (bytC (bs ++ putIns o n)))) [] := by
  refine zg11 (by kernel_rfl) fun w St φ K us h => ?_
  simp only [VRL] at h
  obtain ⟨u, us1, rfl, h1, u2, us2, rfl, h2, rfl⟩ := h
  obtain ⟨A, c, rfl, hrd⟩ := za13 h1
  simp only [VR, CRL, CR] at h2
  obtain ⟨vs, rfl, v1, r1, f1, f1', rfl, e1, ⟨rfl, -, rfl⟩, v2, r2, f2, f2', rfl, rfl, ⟨rfl, -, rfl⟩, rfl, -⟩ := h2
  exact za9 A bs.length c bs o n w hrd hn
end Go.Proofs.YtfemkmnkofgaaaaDoor
-- BIT
namespace Go.Proofs.YtfemkmnkofgaaaaDoor
open Go.RowKit
set_option maxRecDepth 100000
def b8 (n : Int) : UInt8 := UInt8.ofNat n.toNat
theorem zw1 : ∀ bs : List UInt8, cloL (bytC bs) = true
  | [] => rfl
  | b :: r => by
    show (true && cloL (bytC r)) = true
    rw [zw1 r]; rfl
theorem u8b {x : Int} (h0 : 0 ≤ x) (h1 : x < 256) : IntKind.u8.wrap x = ((b8 x).toNat : Int) := by
  rw [IntKind.wrap_u8]
  unfold b8
  rw [UInt8.toNat_ofNat']
  omega
theorem zi8 (acc : List UInt8) (b : UInt8) : bytC (acc ++ [b]) = bytC acc ++ [.v (.int .u8 (b.toNat : Int))] := by simp [bytC]
end Go.Proofs.YtfemkmnkofgaaaaDoor
namespace Go.Proofs.YtfemkmnkofgaaaaDoor
open Go.RowKit
set_option maxRecDepth 100000
section
variable {C : Ctx} {φ : Nat → Lc} {F : Nat → List Nat} {St : Nat → Prop} {σ : AS} {a : Act} {w : World}
theorem SimF.freezeS (h : SimF C φ F St σ a w) {j t n k : Nat} {T : TypeId} {cs : List AC} (hr : σ.hp j = some ⟨T, k, n, false, cs⟩) (ht : σ.tm t = .c (.sl j n)) :
    ∃ St', SimF C φ F St' { σ with tm := upd σ.tm t (.c (.ro n k (fzL cs))), hp := upd σ.hp j none } a w := by
  have hd := h.drop j
  have hfree : ∀ b ∈ F j, Free C φ F St { σ with hp := upd σ.hp j none } b := fun b hb => h.free hr hb
  have hv := h.tms t
  rw [ht] at hv
  simp only [VR, CR] at hv
  obtain ⟨-, -, hφ, -⟩ := hv
  have hrow := (h.row j _ hr).2
  rw [hφ] at hrow
  obtain ⟨_, vs, fs, g1, g2, g3⟩ := hrow
  have hS : ∀ b, St b → b < w.heap.size → (St b ∨ b ∈ F j) ∧ w.heap[b]? = w.heap[b]? := fun b hb _ => ⟨.inl hb, rfl⟩
  have hK : ∀ i, σ.Kn i → σ.Kn i ∧ φ i = φ i := fun i hi => ⟨hi, rfl⟩
  have hro := CR.fz (St' := fun b => St b ∨ b ∈ F j) (fun b hb => .inl hb) (.ow T n k cs) (a.tmps.getD t undef) (F j) (fun b hb => .inr hb) (show CR w St φ σ.Kn (.ow T n k cs) _ (F j) by simp only [CR]; exact ⟨vs, fs, g1, g2, g3⟩)
  refine ⟨fun b => St b ∨ b ∈ F j, hd.dfr, hd.len, fun t' => ?_, fun i r hi => ⟨(hd.row i r hi).1, (hd.row i r hi).2.mono hS (Nat.le_refl _) hK (fun _ _ => rfl) (fun _ _ _ _ _ hB => hB)⟩, hd.nod, hd.dis, hd.bxF, hd.bxd, fun i r b hi hb hs => ?_, fun i r b lo hi e hs => ?_, hd.frm, hd.own, hd.par, hd.new, hd.gnN, fun b hs hl => ?_⟩
  · show VR w _ φ σ.Kn (upd σ.tm t (.c (.ro n k (fzL cs))) t') _
    by_cases e : t' = t
    · subst e; rw [zr]; simp only [VR]; exact hro
    · rw [za1 _ _ e]; exact VR.mono hS (Nat.le_refl _) hK _ _ (h.tms t')
  · rcases hs with hs | hs
    · exact hd.stF i r b hi hb hs
    · exact ((hfree b hs).1 i r hi).1 hb
  · rcases hs with hs | hs
    · exact hd.stB i r b lo hi e hs
    · exact ((hfree b hs).1 i r hi).2 lo e
  · rcases hs with hs | hs
    · exact hd.stS b hs hl
    · exact .inr ((hfree b hs).2.2.resolve_right (by omega))
end
theorem ze21 {tm : Nat → AV} {hp : Nat → Option Row} {gn L : Nat} {us : List Nat} {j t n k : Nat} {T : TypeId} {cs cs' : List AC} (ht : tm t = .c (.sl j n)) (hr : hp j = some ⟨T, k, n, false, cs⟩) (hc : fzL cs = cs') : Gh ⟨tm, hp, gn, us, L⟩ ⟨upd tm t (.c (.ro n k cs')), upd hp j none, gn, us, L⟩ := fun C a w hs => by
  obtain ⟨φ, F, St, h⟩ := hs
  obtain ⟨St', h'⟩ := h.freezeS hr ht
  subst hc
  exact ⟨φ, F, St', h'⟩
theorem zb13 : ∀ bs : List UInt8, fzL (bytC bs) = bytC bs
  | [] => rfl
  | b :: r => by
    show fzC (.v (.int .u8 b.toNat)) :: fzL (bytC r) = _
    rw [zb13 r]; rfl
section
variable {ops : Array Oper} {Q : Exit → Act → World → Prop} {C : Ctx} {i : Nat} {r : List Nat}
variable {tm : Nat → AV} {hp : Nat → Option Row} {gn L : Nat} {us : List Nat}
theorem zc22 {ty : TypeId} {gd : Option (Nat × Bool)} {cas : Array Operand} {cts : Array TypeId} {ps : String} {af : Array Edge} {t : Nat} {fv : Operand} {f : FuncId} {caps : List AC} {args ins : List AV} {par : List AC} {rows : List (List AC)} {n k : Nat} {T : TypeId} {cs : List AC} {res : AV} {nv : AV} {nr : List (Nat × Row)} (lr j p : Nat) (hctr : CtrU Tryd.prog f ins [par] p T k n cs res rows) (h : Walk Tryd.prog ops Q C false [] r ⟨upd tm t nv, updL (upd hp j none) (backU hp [lr] rows ++ nr.map (fun p => (p.1, some p.2))), gn, nr.map (·.1) ++ us, L⟩)
    (hl : lend hp [lr] = some [par]) (hr : hp j = some ⟨T, k, n, false, cs⟩) (hcl : cloL cs = true) 
    (ht : Nat.blt t L = true := by exact rfl) (hg : gw ops tm (⟨some t, .call ⟨.value fv, cas, cts⟩, ty, ps, af, gd⟩ : Oper) = some true := by exact rfl) (hfv : AS.ev ⟨tm, hp, gn, us, L⟩ fv = .c (.fn f caps) := by exact rfl) (hargs : callArgs ⟨tm, hp, gn, us, L⟩ ⟨.value fv, cas, cts⟩ caps = args := by exact rfl) (hpp : args[p]? = some (.c (.sl j n)) := by exact rfl) (hcv : args.map (cvV (upd hp j none) [lr]) = ins := by exact rfl) (hjD : j ≠ lr := by decide) (hRD : ((args.flatMap snV).all fun z => ![lr].contains z) = true := by exact rfl) (hmb : ((args.flatMap snV).all fun z => Nat.beq z j) = true := by exact rfl)
    (hopn : opV (100 * (t + 1)) res = (nv, nr) := by exact rfl) (hf : (nr.all fun p => Nat.ble gn p.1 && !us.contains p.1) = true := by exact rfl) : WalkO Tryd.prog ops Q C false [] i (⟨some t, .call ⟨.value fv, cas, cts⟩, ty, ps, af, gd⟩ : Oper) r ⟨tm, hp, gn, us, L⟩ := ⟨fun hop => by
  subst hargs
  have hm : ∀ z ∈ callR ⟨tm, hp, gn, us, L⟩ ⟨.value fv, cas, cts⟩ caps, z = j := fun z hz => Nat.eq_of_beq_eq_true (List.all_eq_true.1 hmb z hz)
  have e : callInfU ⟨tm, hp, gn, us, L⟩ (callR ⟨tm, hp, gn, us, L⟩ ⟨.value fv, cas, cts⟩ caps) [lr] j (100 * (t + 1)) res rows = ⟨j :: ([lr] ++ callR ⟨tm, hp, gn, us, L⟩ ⟨.value fv, cas, cts⟩ caps), (j, none) :: (backU hp [lr] rows ++ nr.map (fun p => (p.1, some p.2))), nr.map (·.1), nv⟩ := by
    unfold callInfU; rw [hopn]
  have hf' : ∀ q ∈ nr, gn ≤ q.1 ∧ q.1 ∉ us := fun q hq => by have := List.all_eq_true.1 hf q hq; simpa [Nat.ble_eq] using this
  have hRD' : ∀ z ∈ callR ⟨tm, hp, gn, us, L⟩ ⟨.value fv, cas, cts⟩ caps, z ∉ [lr] := fun z hz hm => by
    have := List.all_eq_true.1 hRD z hz
    simp only [List.contains_iff_mem, Bool.not_eq_true', decide_eq_false_iff_not] at this
    simp at this hm
    exact this hm
  refine ⟨_, _, hop, zi16 (σ := ⟨tm, hp, gn, us, L⟩) (p := p) (D := [lr]) hop rfl rfl hfv hg hpp hr hcl (fun hm => hjD (by simpa using hm)) hl hRD' (.inr hm) (by rw [hcv]; exact hctr) (id := 100 * (t + 1)) (fun q hq => (hf' q (by rw [hopn] at hq; exact hq)).1), fun q hq => ?_, zv3 (by exact zq), ?_⟩
  · rw [e] at hq
    simp only [List.mem_map] at hq
    obtain ⟨q', hq', rfl⟩ := hq
    exact (hf' q' hq').2
  · rw [e]
    have e2 : AS.app ⟨tm, hp, gn, us, L⟩ ⟨j :: ([lr] ++ callR ⟨tm, hp, gn, us, L⟩ ⟨.value fv, cas, cts⟩ caps), (j, none) :: (backU hp [lr] rows ++ nr.map (fun p => (p.1, some p.2))), nr.map (·.1), nv⟩ (⟨some t, .call ⟨.value fv, cas, cts⟩, ty, ps, af, gd⟩ : Oper) = ⟨upd tm t nv, updL (upd hp j none) (backU hp [lr] rows ++ nr.map (fun p => (p.1, some p.2))), gn, nr.map (·.1) ++ us, L⟩ := by
      unfold AS.app
      rw [ze4 (za4 ht)]
      rfl
    rw [e2]
    exact zx11 h⟩
theorem zk11 {ty : TypeId} {gd : Option (Nat × Bool)} {cas : Array Operand} {cts : Array TypeId} {ps : String} {af : Array Edge} {t : Nat} {fv : Operand} {f : FuncId} {caps : List AC} {args ins : List AV} {res nv : AV} {nr : List (Nat × Row)} (hctr : Ctr Tryd.prog f ins [] res []) (h : Walk Tryd.prog ops Q C false [] r ⟨upd tm t nv, updL hp (nr.map (fun p => (p.1, some p.2))), gn, nr.map (·.1) ++ us, L⟩) (ht : Nat.blt t L = true := by exact rfl) (hg : gw ops tm (⟨some t, .call ⟨.value fv, cas, cts⟩, ty, ps, af, gd⟩ : Oper) = some true := by exact rfl) (hfv : AS.ev ⟨tm, hp, gn, us, L⟩ fv = .c (.fn f caps) := by exact rfl) (hargs : callArgs ⟨tm, hp, gn, us, L⟩ ⟨.value fv, cas, cts⟩ caps = args := by exact rfl) (hcv : args.map (cvV hp []) = ins := by ((repeat' (first | rfl | exact zq3 | refine zu2 ?_ ?_ | refine ze6 ?_ | refine cv_c ?_ | refine zv2 ?_ ?_ | (refine zn4 ?_; (first | rfl | (simp [cloV, cloL, clo, zo, zl, zp, zn, zi]; done))) | (refine zo4 ?_; (first | rfl | (simp [cloV, cloL, clo, zo, zl, zp, zn, zi]; done))) | refine zp4 ?_ | (refine cvC_sl' (by rfl) (by rfl) (by rfl) (by rfl) ?_ ?_; (focus (first | rfl | (simp [cloV, cloL, clo, zo, zl, zp, zn, zi]; done))); (first | rfl | exact zb2 _)))) <;> exact rfl)) (hm : ((args.flatMap snV).all fun z => ([] : List Nat).contains z) = true := by exact rfl) (hopn : opV (100 * (t + 1)) res = (nv, nr) := by exact rfl) (hf : (nr.all fun p => Nat.ble gn p.1 && !us.contains p.1) = true := by exact rfl) : WalkO Tryd.prog ops Q C false [] i (⟨some t, .call ⟨.value fv, cas, cts⟩, ty, ps, af, gd⟩ : Oper) r ⟨tm, hp, gn, us, L⟩ := ⟨fun hop => by
  refine zj12 (100 * (t + 1)) [] [] hop rfl rfl rfl ht hg hfv hargs (pars := []) rfl (by rw [hcv]; exact hctr) (by simp) rfl (.inr hm) hopn hf (by exact zq) ?_
  simpa [keepH, backU] using h⟩
end
theorem zx13 {α : Type} {P : List AC → Prop} {R : List AC → α → List AC → Prop} (step : ∀ cs, P cs → ∃ (x : α) (cs' : List AC), P cs' ∧ R cs x cs') {cs : List AC} (h : P cs) : ∃ (S : Nat → List AC) (X : Nat → α), S 0 = cs ∧ ∀ k, P (S k) ∧ R (S k) (X k) (S (k + 1)) := by
  let f : {c : List AC // P c} → {c : List AC // P c} := fun s => ⟨Classical.choose (Classical.choose_spec (step s.1 s.2)), (Classical.choose_spec (Classical.choose_spec (step s.1 s.2))).1⟩
  let S : Nat → {c : List AC // P c} := fun k => Nat.rec ⟨cs, h⟩ (fun _ s => f s) k
  exact ⟨fun k => (S k).1, fun k => Classical.choose (step (S k).1 (S k).2), rfl, fun k => ⟨(S k).2, (Classical.choose_spec (Classical.choose_spec (step (S k).1 (S k).2))).2⟩⟩
end Go.Proofs.YtfemkmnkofgaaaaDoor
-- BIT
namespace Go.Proofs.YtfemkmnkofgaaaaDoor
open Go.RowKit
set_option maxRecDepth 100000
def bI (bs : List UInt8) : List E := bs.map fun b => .int .u8 (b.toNat : Int)
theorem zf21 {bs : List UInt8} : (bI bs).length = bs.length := by simp [bI]
theorem zg21 {bs : List UInt8} : ∀ e ∈ bI bs, e.enc.length = 1 := fun e he => by obtain ⟨x, -, rfl⟩ := List.mem_map.1 he; rfl
theorem zh21 {bs : List UInt8} : ∀ e ∈ bI bs, ∃ z, e = .int .u8 z := fun e he => by obtain ⟨x, -, rfl⟩ := List.mem_map.1 he; exact ⟨_, rfl⟩
theorem zq5 : ∀ bs : List UInt8, bytC bs = acL (bI bs)
  | [] => rfl
  | b :: r => by
    show AC.v (.int .u8 b.toNat) :: bytC r = [AC.v (.int .u8 b.toNat)] ++ acL (bI r)
    rw [zq5 r]; rfl
def cut8 (bs : List UInt8) (a m : Nat) : List UInt8 := (bs.drop a).take m
theorem zf20 {bs : List UInt8} {a m : Nat} : subL (acL (bI bs)) a m = acL (bI (cut8 bs a m)) := by
  rw [← zq5, ← zq5]
  simp only [subL, bytC, cut8, List.map_drop, List.map_take]
theorem zd22 {ty : TypeId} {gd : Option (Nat × Bool)} {ps : String} {af : Array Edge} {t : Nat} {x lo hi : Operand} {bs : List UInt8} {a m : Nat} {z1 z2 : Int} {ev : Operand → AV} {hp : Nat → Option Row} {id : Nat} (hx : ev x = .c (.ro bs.length 1 (acL (bI bs)))) (h1 : ev lo = .c (.v (.int .i64 z1))) (h2 : ev hi = .c (.v (.int .i64 z2))) (e1 : z1 = (a : Int)) (e2 : z2 = ((a + m : Nat) : Int)) (hm : a + m ≤ bs.length) :
    EffD Tryd.prog (⟨some t, .slice 22 x (some lo) (some hi) none, ty, ps, af, gd⟩ : Oper) ev hp id = some (.c (.ro (cut8 bs a m).length 1 (acL (bI (cut8 bs a m)))), .nop) := by
  have hl : (cut8 bs a m).length = m := by simp [cut8]; omega
  show (if isStr (ev x) = true then _ else dSlice Tryd.prog hp id 22 (ev x) (some (ev lo)) (some (ev hi))) = _
  rw [hx, if_neg (by intro h; cases h), h1, h2]
  unfold dSlice
  rw [Tryd.underlying22]
  have hk : (Tryd.prog.info? 5).map (·.size) = some 1 := by kernel_rfl
  simp only [hk]
  subst e1 e2
  have b1 : bnd 0 (some (.c (.v (.int .i64 (a : Int))))) = some a := by simp [bnd]
  have b2 : bnd bs.length (some (.c (.v (.int .i64 ((a + m : Nat) : Int))))) = some (a + m) := by simp only [bnd]; rw [if_pos (by omega)]; congr 1
  rw [b1, b2]
  simp only
  rw [if_pos ⟨trivial, by omega, hm⟩, show a + m - a = m by omega, Nat.mul_one, Nat.mul_one, zf20, hl]
theorem zi21 {ops : Array Oper} {Q : Exit → Act → World → Prop} {C : Ctx} {H : List (Nat × Oper × Inf)} {dr : Bool} {i : Nat} {r : List Nat} {tm : Nat → AV} {hp : Nat → Option Row} {gn L : Nat} {us : List Nat} {ty : TypeId} {gd : Option (Nat × Bool)} {ps : String} {af : Array Edge} {t : Nat} {x lo hi : Operand} {bs : List UInt8} (a m : Nat) {z1 z2 : Int}
    (h : Walk Tryd.prog ops Q C dr (keepH dr (i, (⟨some t, .slice 22 x (some lo) (some hi) none, ty, ps, af, gd⟩ : Oper), ⟨fpO (AS.ev ⟨tm, hp, gn, us, L⟩) (⟨some t, .slice 22 x (some lo) (some hi) none, ty, ps, af, gd⟩ : Oper), [], [], .c (.ro (cut8 bs a m).length 1 (acL (bI (cut8 bs a m))))⟩) H) r ⟨upd tm t (.c (.ro (cut8 bs a m).length 1 (acL (bI (cut8 bs a m))))), hp, gn, us, L⟩) (hm : a + m ≤ bs.length) (e1 : z1 = (a : Int)) (e2 : z2 = ((a + m : Nat) : Int))
    (ht : Nat.blt t L = true := by exact rfl) (hg : gw ops tm (⟨some t, .slice 22 x (some lo) (some hi) none, ty, ps, af, gd⟩ : Oper) = some true := by exact rfl)
    (hx : AS.ev ⟨tm, hp, gn, us, L⟩ x = .c (.ro bs.length 1 (acL (bI bs))) := by exact rfl) (h1 : AS.ev ⟨tm, hp, gn, us, L⟩ lo = .c (.v (.int .i64 z1)) := by exact rfl) (h2 : AS.ev ⟨tm, hp, gn, us, L⟩ hi = .c (.v (.int .i64 z2)) := by exact rfl)
    (hc : chk dr ops i (⟨some t, .slice 22 x (some lo) (some hi) none, ty, ps, af, gd⟩ : Oper) ⟨fpO (AS.ev ⟨tm, hp, gn, us, L⟩) (⟨some t, .slice 22 x (some lo) (some hi) none, ty, ps, af, gd⟩ : Oper), [], [], .c (.ro (cut8 bs a m).length 1 (acL (bI (cut8 bs a m))))⟩ H = true := by first | (with_reducible exact zq) | kernel_rfl) :
    WalkO Tryd.prog ops Q C dr H i (⟨some t, .slice 22 x (some lo) (some hi) none, ty, ps, af, gd⟩ : Oper) r ⟨tm, hp, gn, us, L⟩ := zk h ht hg (zd22 hx h1 h2 e1 e2 hm) hc
end Go.Proofs.YtfemkmnkofgaaaaDoor
