/- A new cursor: its call, in the machine. -/
import Derived.Test.YtfemkmnkofgaaaaDoorInsQ
namespace Go.Proofs.YtfemkmnkofgaaaaDoor
open Go.RowKit
set_option maxRecDepth 100000
def hsh (bs : List UInt8) : Nat → Int
  | 0 => wrap64 (348348 + (bs.length : Int))
  | k + 1 => bits .and .i64 (wrap64 (wrap64 (wrap64 (hsh bs k * 137) + wrap64 ((bs[k]?.getD 0).toNat : Int)) + 11)) 1073741823
set_option maxHeartbeats 1000000 in
theorem zc13 (bs : List UInt8) : ∃ h : Int, ∀ (A : Option Addr) (c : Nat) (w : World), Rd w 1 encB (.slice A bs.length c) bs →
    Calls Tryd.prog 34 #[.slice A bs.length c] w fun e w' => e = .returned (.pointer (some ⟨w.heap.size, 0, none⟩)) ∧ ∃ n, w' = (w.alloc (.cells #[.slice A bs.length c, .int .i64 0, .int .i64 h] 121)).drewN n := by
  refine ⟨hsh bs (min bs.length 4000), fun A c w hs => ?_⟩
  have hlen := hs.len_le
  go_enter Tryd.func34, Tryd.ntmps34
  go_wp2
  go_loopw [3, 4] (fun h i wr => ∃ k : Nat, k ≤ min bs.length 4000 ∧ i = .int .i64 k ∧ h = .int .i64 (hsh bs k) ∧ wr = w) (fun _ i _ => bs.length - (intOf i).toNat)
  case atStart => exact ⟨0, Nat.zero_le _, rfl, rfl, rfl⟩
  case round =>
    obtain ⟨k, hk, rfl, rfl, rfl⟩ := hrel
    by_cases hlt : k < bs.length ∧ k < 4000
    · obtain ⟨hlt, h4⟩ := hlt
      obtain ⟨g, o, rfl, _, _, hcell⟩ := Sl.at1 hs hlt
      have c0 := hcell _ rfl
      clear hcell
      go_wp2
      go_roundw
      case rel => exact ⟨k + 1, by omega, by go_num, by simp [hsh, List.getElem?_eq_getElem hlt], trivial⟩
      case measure => simp [intOf]; omega
    · have hke : k = min bs.length 4000 := by omega
      rw [← hke]
      by_cases hlt2 : k < bs.length
      · have h4 : ¬ k < 4000 := fun h => hlt ⟨hlt2, h⟩
        clear hlt
        go_wp2
        go_ret
        exact ⟨rfl, 0, rfl⟩
      · clear hlt
        go_wp2
        go_ret
        exact ⟨rfl, 0, rfl⟩
def bE8 (bs : List UInt8) : List E := bs.map fun b => .int .u8 (b.toNat : Int)
theorem zo16 {bs : List UInt8} : (bE8 bs).length = bs.length := by simp [bE8]
theorem zg20 (bs : List UInt8) : Byt (bE8 bs) := fun e he => by
  obtain ⟨b, -, rfl⟩ := List.mem_map.1 he
  exact ⟨b.toNat, b.toNat_lt, rfl⟩
theorem zd13 {w : World} {St : Nat → Prop} {φ : Nat → Lc} {K : Nat → Prop} : ∀ {bs : List UInt8} {us : List Value} {fp : List Nat}, CRL w St φ K (acL (bE8 bs)) us fp → us = bs.map fun b => .int .u8 b.toNat
  | [], us, fp, h => by
    have h' : CRL w St φ K [] us fp := h
    simp only [CRL] at h'
    exact h'.1
  | b :: r, us, fp, h => by
    have h' : CRL w St φ K (.v (.int .u8 b.toNat) :: acL (bE8 r)) us fp := h
    simp only [CRL] at h'
    obtain ⟨u, us', f1, f2, rfl, rfl, h1, h2⟩ := h'
    simp only [CR] at h1
    obtain ⟨rfl, -⟩ := h1
    rw [zd13 h2]
    rfl
theorem zk21 {w : World} {St : Nat → Prop} {φ : Nat → Lc} {K : Nat → Prop} {u : Value} {bs : List UInt8} (h : VR w St φ K (.c (.ro bs.length 1 (acL (bE8 bs)))) u) : ∃ A c, u = .slice A bs.length c ∧ Rd w 1 encB (.slice A bs.length c) bs := by
  simp only [VR, CR] at h
  obtain ⟨-, A, c, rfl, ⟨h1, h2, h3⟩, h4, h5⟩ := h
  refine ⟨A, c, rfl, A, c, rfl, h1, ⟨h2, h3⟩, fun hn => ?_⟩
  obtain ⟨b, o, us, rfl, -, hlt, hc, hcr⟩ := h5 hn
  refine ⟨b, o, rfl, Nat.zero_le _, hlt, fun i hi j u hu => ?_⟩
  have hus := zd13 hcr
  have hj : j = 0 ∧ u = .int .u8 bs[i].toNat := by
    cases j with
    | zero => simp [encB] at hu; exact ⟨rfl, hu.symm⟩
    | succ j => simp [encB] at hu
  obtain ⟨rfl, rfl⟩ := hj
  have := hc i (.int .u8 bs[i].toNat) (by rw [hus, List.getElem?_map, List.getElem?_eq_getElem hi]; rfl)
  rw [Nat.mul_one, Nat.add_zero]
  exact this
def newCur (bs : List UInt8) (h : Int) : List AC := [.ro bs.length 1 (acL (bE8 bs)), .v (.int .i64 0), .v (.int .i64 h)]
theorem zj8 {bs : List UInt8} {h : Int} (hl : bs.length ≤ 1048576) : Curs (newCur bs h) := by
  refine ⟨bE8 bs, 0, h, zg20 bs, Nat.zero_le _, by rw [zo16]; exact hl, ?_⟩
  rw [zo16]; rfl
theorem zl21 {ops : Array Oper} {Q : Exit → Act → World → Prop} {C : Ctx} {i : Nat} {r : List Nat} {tm : Nat → AV} {hp : Nat → Option Row} {gn L : Nat} {us : List Nat} {ty cT : TypeId} {gd : Option (Nat × Bool)} {ps : String} {af : Array Edge} {t : Nat} {xo fv : Operand} {bs : List UInt8} {hh : Int}
    (hnew : ∀ (A : Option Addr) (c : Nat) (w : World), Rd w 1 encB (.slice A bs.length c) bs → Calls Tryd.prog 34 #[.slice A bs.length c] w fun e w' => e = .returned (.pointer (some ⟨w.heap.size, 0, none⟩)) ∧ ∃ n, w' = (w.alloc (.cells #[.slice A bs.length c, .int .i64 0, .int .i64 hh] 121)).drewN n)
    (h : Walk Tryd.prog ops Q C false [] r ⟨upd tm t (.c (.pt t 0)), upd hp t (some ⟨121, 0, 0, true, newCur bs hh⟩), gn, t :: us, L⟩)
    (ht : Nat.blt t L = true := by exact rfl) (hg : gw ops tm (⟨some t, .call ⟨.value fv, #[xo], #[cT]⟩, ty, ps, af, gd⟩ : Oper) = some true := by exact rfl) (hf : (Nat.ble gn t && !us.contains t) = true := by exact rfl)
    (hfv : AS.ev ⟨tm, hp, gn, us, L⟩ fv = .c (.fn 34 []) := by exact rfl) (hx : AS.ev ⟨tm, hp, gn, us, L⟩ xo = .c (.ro bs.length 1 (acL (bE8 bs))) := by exact rfl) :
    WalkO Tryd.prog ops Q C false [] i (⟨some t, .call ⟨.value fv, #[xo], #[cT]⟩, ty, ps, af, gd⟩ : Oper) r ⟨tm, hp, gn, us, L⟩ := ⟨fun hop => by
  simp only [Bool.and_eq_true, Nat.ble_eq, Bool.not_eq_true'] at hf
  have hnu : t ∉ us := fun hm => by have := hf.2; simp at this; exact this hm
  refine ⟨_, ⟨[], [(t, some ⟨121, 0, 0, true, newCur bs hh⟩)], [t], .c (.pt t 0)⟩, hop, ?_, fun m hm => ?_, zv3 (by exact zq), ?_⟩
  · intro τ a w ha hsim K hK
    obtain ⟨φ, F, St, hsim⟩ := hsim
    have e1 : τ.ev xo = .c (.ro bs.length 1 (acL (bE8 bs))) := by rw [ha.ev xo (by simp [Op.operands, Call.operands])]; exact hx
    have e2 : τ.ev fv = .c (.fn 34 []) := by rw [ha.ev fv (by simp [Op.operands, Call.operands])]; exact hfv
    have v1 := hsim.ev xo
    have v2 := hsim.ev fv
    rw [e1] at v1
    rw [e2] at v2
    simp only [VR, CR] at v2
    obtain ⟨-, us2, hfu, hcaps⟩ := v2
    obtain ⟨rfl, -⟩ : us2 = [] ∧ True := by simp only [CRL] at hcaps; exact ⟨hcaps.1, trivial⟩
    obtain ⟨A, c, hev, hrd⟩ := zk21 v1
    unfold wpOp
    rw [hop]
    have hw := zt11 hsim (b := true) (by rw [ha.gw]; exact hg)
    simp only [hw, if_true]
    refine .inl ?_
    unfold Oper.wp
    have hrun : (execOp a.eval (⟨some t, .call ⟨.value fv, #[xo], #[cT]⟩, ty, ps, af, gd⟩ : Oper)).run Tryd.prog w = .ok (.enter 34 #[.slice A bs.length c]) w := by
      have h1 : (resolve a.eval ⟨.value fv, #[xo], #[cT]⟩ ty).run Tryd.prog w = .ok { target := .fn (.func 34) #[], args := #[.slice A bs.length c] } w := by
        unfold resolve; simp only [hfu, Deferred.ofValue, Sem.run_pure]
        simp [hev]
      have h2 : execOp a.eval (⟨some t, .call ⟨.value fv, #[xo], #[cT]⟩, ty, ps, af, gd⟩ : Oper) = (do let d ← resolve a.eval ⟨.value fv, #[xo], #[cT]⟩ ty; invoke d.target d.args) := by unfold execOp; rfl
      rw [h2, Sem.run_bind, h1]
      simp only [Result.andThen_ok, invoke]
      exact zh5 (by kernel_rfl) _ _
    rw [hrun, Oper.upon_enter]
    refine (hnew A c w hrd).mono ?_
    rintro e w' ⟨rfl, n, rfl⟩
    have hcr : CRL w St φ τ.Kn (newCur bs hh) [.slice A bs.length c, .int .i64 0, .int .i64 hh] [] := by
      refine CRL.cons (f := []) (f' := []) ?_ (CRL.cons (f := []) (f' := []) (by simp only [CR]; exact ⟨trivial, rfl, trivial⟩) (CRL.cons (f := []) (f' := []) (by simp only [CR]; exact ⟨trivial, rfl, trivial⟩) CRL.nil))
      simp only [VR] at v1
      rw [← hev]
      exact v1
    obtain ⟨φ', F', St', s1, s2⟩ := hsim.newBox (id := t) (by rw [ha.gn]; exact hf.1) (ha.us t (by simp)) hcr 121
    have s3 := s1.keep (w' := (w.alloc (.cells #[.slice A bs.length c, .int .i64 0, .int .i64 hh] 121)).drewN n) (Stp.drawn _ _ none)
    exact hK _ _ ⟨φ', F', St', s3.put (some t) (VR.mono (fun b hb _ => ⟨hb, rfl⟩) (Nat.le_refl _) (fun _ hi => ⟨hi, rfl⟩) _ _ s2)⟩
  · have : m = t := by simpa using hm
    subst this
    exact hnu
  · refine za2 ?_
    show Walk Tryd.prog ops Q C false [] r (AS.put _ (some t) _)
    rw [ze4 (by exact za4 ht)]; exact h⟩
theorem zk6 : ∀ bs : List UInt8, toRoL (bytC bs) = bytC bs
  | [] => rfl
  | b :: r => by
    show AC.v _ :: toRoL (bytC r) = AC.v _ :: bytC r
    rw [zk6 r]
theorem zk8 : ∀ bs : List UInt8, rofrL (bytC bs) = true
  | [] => rfl
  | b :: r => by
    show (true && rofrL (bytC r)) = true
    rw [zk8 r]; rfl
section
variable {ops : Array Oper} {Q : Exit → Act → World → Prop} {C : Ctx} {i : Nat} {r : List Nat}
variable {tm : Nat → AV} {hp : Nat → Option Row} {gn L : Nat} {us : List Nat}
theorem zl6 {ty : TypeId} {gd : Option (Nat × Bool)} {ps : String} {af : Array Edge} {t : Nat} {cas : Array Operand} {cts : Array TypeId} {fv : Operand} {f : FuncId} {caps : List AC} {args ins : List AV} {x : Value} (hctr : Ctr Tryd.prog f ins [] (.c (.v x)) []) (h : Walk Tryd.prog ops Q C false [] r ⟨upd tm t (.c (.v x)), hp, gn, us, L⟩) (ht : Nat.blt t L = true := by exact rfl) (hg : gw ops tm (⟨some t, .call ⟨.value fv, cas, cts⟩, ty, ps, af, gd⟩ : Oper) = some true := by exact rfl) (hfv : AS.ev ⟨tm, hp, gn, us, L⟩ fv = .c (.fn f caps) := by exact rfl) (hargs : callArgs ⟨tm, hp, gn, us, L⟩ ⟨.value fv, cas, cts⟩ caps = args := by exact rfl) (hcv : args.map (cvV hp []) = ins := by (first | ((repeat' (first | rfl | exact zq3 | refine zu2 ?_ ?_ | refine ze6 ?_ | refine cv_c ?_ | refine zv2 ?_ ?_ | (refine zn4 ?_; (first | exact zw1 _ | exact zl _ | (first | rfl | (simp [cloV, cloL, clo, zo, zl, zp, zn, zi]; done)))) | (refine zo4 ?_; (first | rfl | (simp [cloV, cloL, clo, zo, zl, zp, zn, zi]; done))) | refine zp4 ?_ | (refine cvC_sl' (by rfl) (by rfl) (by rfl) (by rfl) ?_ ?_; (focus (first | exact zw1 _ | (first | rfl | (simp [cloV, cloL, clo, zo, zl, zp, zn, zi]; done)))); (first | rfl | exact zk6 _ | exact zb2 _)))) <;> exact rfl) | fail)) : WalkO Tryd.prog ops Q C false [] i (⟨some t, .call ⟨.value fv, cas, cts⟩, ty, ps, af, gd⟩ : Oper) r ⟨tm, hp, gn, us, L⟩ := zd3 (hctr := hctr) (h := h) (ht := ht) (hg := hg) (hfv := hfv) (hargs := hargs) (hcv := hcv)
theorem zm6 {ty : TypeId} {gd : Option (Nat × Bool)} {cas : Array Operand} {cts : Array TypeId} {ps : String} {af : Array Edge} {t : Nat} {fv : Operand} {f : FuncId} {caps : List AC} {args ins : List AV} {res : AV} {nv : AV} {nr : List (Nat × Row)} (hctr : Ctr Tryd.prog f ins [] res []) (h : Walk Tryd.prog ops Q C false [] r ⟨upd tm t nv, updL hp (nr.map (fun p => (p.1, some p.2))), gn, nr.map (·.1) ++ us, L⟩) (ht : Nat.blt t L = true := by exact rfl) (hg : gw ops tm (⟨some t, .call ⟨.value fv, cas, cts⟩, ty, ps, af, gd⟩ : Oper) = some true := by exact rfl) (hfv : AS.ev ⟨tm, hp, gn, us, L⟩ fv = .c (.fn f caps) := by exact rfl) (hargs : callArgs ⟨tm, hp, gn, us, L⟩ ⟨.value fv, cas, cts⟩ caps = args := by exact rfl) (hcv : args.map (cvV hp []) = ins := by (first | ((repeat' (first | rfl | exact zq3 | refine zu2 ?_ ?_ | refine ze6 ?_ | refine cv_c ?_ | refine zv2 ?_ ?_ | (refine zn4 ?_; (first | exact zw1 _ | exact zl _ | (first | rfl | (simp [cloV, cloL, clo, zo, zl, zp, zn, zi]; done)))) | (refine zo4 ?_; (first | rfl | (simp [cloV, cloL, clo, zo, zl, zp, zn, zi]; done))) | refine zp4 ?_ | (refine cvC_sl' (by rfl) (by rfl) (by rfl) (by rfl) ?_ ?_; (focus (first | exact zw1 _ | (first | rfl | (simp [cloV, cloL, clo, zo, zl, zp, zn, zi]; done)))); (first | rfl | exact zk6 _ | exact zb2 _)))) <;> exact rfl) | fail)) (hm : rofrV res = true := by first | exact zk8 _ | (first | rfl | exact zf1 _ | (simp [rofrV, rofrVL, rofrL, rofr, zf1, zp2, zk2]; done))) (hopn : opV (100 * (t + 1)) res = (nv, nr) := by exact rfl) (hf : (nr.all fun p => Nat.ble gn p.1 && !us.contains p.1) = true := by exact rfl) : WalkO Tryd.prog ops Q C false [] i (⟨some t, .call ⟨.value fv, cas, cts⟩, ty, ps, af, gd⟩ : Oper) r ⟨tm, hp, gn, us, L⟩ := zw2 (hctr := hctr) (h := h) (ht := ht) (hg := hg) (hfv := hfv) (hargs := hargs) (hcv := hcv) (hm := hm) (hopn := hopn) (hf := hf)
theorem za7 {H : List (Nat × Oper × Inf)} {dr : Bool} {ty : TypeId} {gd : Option (Nat × Bool)} {cas : Array Operand} {cts : Array TypeId} {ps : String} {af : Array Edge} {t : Nat} {fv : Operand} {f : FuncId} {caps : List AC} {args ins : List AV} {res : AV} {nv : AV} {nr : List (Nat × Row)} (hctr : Ctr Tryd.prog f ins [] res []) (h : Walk Tryd.prog ops Q C dr (keepH dr (i, (⟨some t, .call ⟨.value fv, cas, cts⟩, ty, ps, af, gd⟩ : Oper), ⟨args.flatMap snV ++ [], nr.map (fun p => (p.1, some p.2)), nr.map (·.1), nv⟩) H) r ⟨upd tm t nv, updL hp (nr.map (fun p => (p.1, some p.2))), gn, nr.map (·.1) ++ us, L⟩) (ht : Nat.blt t L = true := by exact rfl) (hg : gw ops tm (⟨some t, .call ⟨.value fv, cas, cts⟩, ty, ps, af, gd⟩ : Oper) = some true := by exact rfl) (hfv : AS.ev ⟨tm, hp, gn, us, L⟩ fv = .c (.fn f caps) := by exact rfl) (hargs : callArgs ⟨tm, hp, gn, us, L⟩ ⟨.value fv, cas, cts⟩ caps = args := by exact rfl) (hcv : args.map (cvV hp []) = ins := by (first | ((repeat' (first | rfl | exact zq3 | refine zu2 ?_ ?_ | refine ze6 ?_ | refine cv_c ?_ | refine zv2 ?_ ?_ | (refine zn4 ?_; (first | exact zw1 _ | exact zl _ | (first | rfl | (simp [cloV, cloL, clo, zo, zl, zp, zn, zi]; done)))) | (refine zo4 ?_; (first | rfl | (simp [cloV, cloL, clo, zo, zl, zp, zn, zi]; done))) | refine zp4 ?_ | (refine cvC_sl' (by rfl) (by rfl) (by rfl) (by rfl) ?_ ?_; (focus (first | exact zw1 _ | (first | rfl | (simp [cloV, cloL, clo, zo, zl, zp, zn, zi]; done)))); (first | rfl | exact zk6 _ | exact zb2 _)))) <;> exact rfl) | fail)) (hm : rofrV res = true := by first | exact zk8 _ | (first | rfl | exact zf1 _ | (simp [rofrV, rofrVL, rofrL, rofr, zf1, zp2, zk2]; done))) (hopn : opV (100 * (t + 1)) res = (nv, nr) := by exact rfl) (hf : (nr.all fun p => Nat.ble gn p.1 && !us.contains p.1) = true := by exact rfl) (hc : chk dr ops i (⟨some t, .call ⟨.value fv, cas, cts⟩, ty, ps, af, gd⟩ : Oper) ⟨args.flatMap snV ++ [], nr.map (fun p => (p.1, some p.2)), nr.map (·.1), nv⟩ H = true := by first | (with_reducible exact zq) | kernel_rfl) : WalkO Tryd.prog ops Q C dr H i (⟨some t, .call ⟨.value fv, cas, cts⟩, ty, ps, af, gd⟩ : Oper) r ⟨tm, hp, gn, us, L⟩ := zt3 (hctr := hctr) (h := h) (ht := ht) (hg := hg) (hfv := hfv) (hargs := hargs) (hcv := hcv) (hm := hm) (hopn := hopn) (hf := hf) (hc := hc)
end
end Go.Proofs.YtfemkmnkofgaaaaDoor
