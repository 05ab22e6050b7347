/- The machine: blocks given over to those that stand; the conversion of a literal's row of bytes, by which it stands from then on. -/
import Derived.Test.YtghljnfbbaklnaaModuleOkP
namespace Go.Proofs.Ytghljnfbbaklnaa
open Go.RowKit
set_option maxRecDepth 100000
section
variable {C : Ctx} {φ : Nat → Lc} {F : Nat → List Nat} {St : Nat → Prop} {σ : AS} {a : Act} {w w' : World}
theorem SimF.give (h : SimF C φ F St σ a w) {b : Nat} (hf : Free C φ F St σ b) (hs : Stp (some b) w w') : SimF C φ F (fun x => (St x ∧ x < w.heap.size) ∨ x = b) σ a w' := by
  have hS : ∀ x, St x → x < w.heap.size → ((St x ∧ x < w.heap.size) ∨ x = b) ∧ w'.heap[x]? = w.heap[x]? := fun x hx hl => ⟨.inl ⟨hx, hl⟩, hs.blk x hl fun e => hf.2.1 (by injection e with e; exact e ▸ hx)⟩
  have hK : ∀ j, σ.Kn j → σ.Kn j ∧ φ j = φ j := fun j hj => ⟨hj, rfl⟩
  refine ⟨h.dfr, h.len, fun t => VR.mono hS hs.size hK _ _ (h.tms t), fun j s hj => ⟨(h.row j s hj).1, ?_⟩, h.nod, h.dis, h.bxF, h.bxd, fun j s x hj hx hst => ?_, fun j s x lo hj e hst => ?_, ?_, h.own, h.par, h.new, h.gnN, fun x hx hl => ?_⟩
  · have h1 := (h.row j s hj).2
    exact h1.mono hS hs.size hK (fun x hx => hs.blk x (h1.lt x hx) fun e => (hf.1 j s hj).1 (by injection e with e; exact e ▸ hx)) fun x lo us e' _ hB => hB.block (hs.blk x hB.lt fun e => (hf.1 j s hj).2 lo (by injection e with e; rw [e', e]))
  · rcases hst with h1 | rfl
    · exact h.stF j s x hj hx h1.1
    · exact (hf.1 j s hj).1 hx
  · rcases hst with h1 | rfl
    · exact h.stB j s x lo hj e h1.1
    · exact (hf.1 j s hj).2 lo e
  · have hfr := h.frm
    refine ⟨hs.os.trans hfr.os, hs.tape.trans hfr.tape, hs.output.trans hfr.output, Nat.le_trans hfr.size hs.size, fun x hx hM => (hfr.blk x hx hM).trans (.inl (hs.blk x (Nat.lt_of_lt_of_le hx hfr.size) fun e => ?_))⟩
    injection e with e
    subst e
    rcases hf.2.2 with h1 | h1
    · exact hM h1
    · omega
  · rcases hx with h1 | rfl
    · exact h.stS x h1.1 hl
    · rcases hf.2.2 with h1 | h1
      · exact .inr h1
      · omega
end
section
variable {P : Program} {ops : Array Oper} {Q : Exit → Act → World → Prop} {C : Ctx} {i : Nat} {r : List Nat} {o : Oper}
variable {tm : Nat → AV} {hp : Nat → Option Row} {gn L : Nat} {us : List Nat} {x : AV}
theorem zv17 {w : World} {b : Nat} {cur : Array Value} {e : TypeId} (h : w.heap[b]? = some (.cells cur e (0, 0))) : (w.freeze ⟨b, cur.size, none⟩ 1).heap[b]? = some (.cells cur e (cur.size, cur.size + 1)) ∧ Stp (some b) w (w.freeze ⟨b, cur.size, none⟩ 1) := by
  unfold World.freeze
  rw [if_neg (by decide)]
  refine ⟨?_, rfl, rfl, rfl, ?_, fun j hj hne => ?_⟩
  · show (w.heap.modify b _)[b]? = _
    rw [Array.getElem?_modify, if_pos rfl, h]; rfl
  · show w.heap.size ≤ (w.heap.modify b _).size
    rw [Array.size_modify]; exact Nat.le_refl _
  · show (w.heap.modify b _)[j]? = _
    rw [Array.getElem?_modify, if_neg (fun e => hne (by rw [e]))]
theorem zp21 {P : Program} {T e : TypeId} {w : World} {b n c : Nat} {cur : Array Value} (ht : P.underlying T = some (.slice e)) (he : P.underlying e = some (.int .u8)) (h : w.heap[b]? = some (.cells cur e (0, 0))) :
    (convert T T (.slice (some ⟨b, 0, none⟩) n c)).run P w = .ok (.slice (some ⟨b, 0, none⟩) n c) (w.freeze ⟨b, cur.size, none⟩ 1) := by
  have hsh : w.shape? b = some (e, cur.size) := by unfold World.shape?; rw [h]
  simp [convert, run_underlying ht, run_underlying he, markStringish, hsh]
def scC : AC → Bool
  | .v _ => true
  | _ => false
theorem zq21 {w w' : World} {St St' : Nat → Prop} {φ φ' : Nat → Lc} {K K' : Nat → Prop} : ∀ {l : List AC} {us : List Value} {fp : List Nat}, l.all scC = true → CRL w St φ K l us fp → fp = [] ∧ CRL w' St' φ' K' l us []
  | [], us, fp, _, h => by
    simp only [CRL] at h
    obtain ⟨rfl, rfl⟩ := h
    exact ⟨rfl, CRL.nil⟩
  | c :: t, us, fp, hl, h => by
    simp only [List.all_cons, Bool.and_eq_true] at hl
    simp only [CRL] at h
    obtain ⟨u, us', f1, f2, rfl, rfl, h1, h2⟩ := h
    obtain ⟨rfl, h4⟩ := zq21 (w' := w') (St' := St') (φ' := φ') (K' := K') hl.2 h2
    cases c with
    | v y =>
      simp only [CR] at h1
      obtain ⟨rfl, g2, rfl⟩ := h1
      exact ⟨rfl, CRL.cons (f := []) (f' := []) (by simp only [CR]; exact ⟨trivial, g2, trivial⟩) h4⟩
    | _ => cases hl.1
theorem n_cvm {ty : TypeId} {gd : Option (Nat × Bool)} {ps : String} {af : Array Edge} {t j n : Nat} {T e : TypeId} {xo : Operand} {cs : List AC}
    (h : Walk P ops Q C false [] r ⟨upd tm t (.c (.ro n 1 cs)), upd hp j none, gn, us, L⟩)
    (hT : P.underlying T = some (.slice e)) (hE : P.underlying e = some (.int .u8)) (ht : Nat.blt t L = true := by exact rfl) (hg : gw ops tm (⟨some t, .convert T T xo, ty, ps, af, gd⟩ : Oper) = some true := by exact rfl)
    (hx : AS.ev ⟨tm, hp, gn, us, L⟩ xo = .c (.sl j n) := by exact rfl) (hr : hp j = some ⟨e, 1, n, false, cs⟩ := by exact rfl) (hn : Nat.blt 0 n = true := by exact rfl) (hs : cs.all scC = true := by exact rfl) :
    WalkO P ops Q C false [] i (⟨some t, .convert T T xo, ty, ps, af, gd⟩ : Oper) r ⟨tm, hp, gn, us, L⟩ := ⟨fun hop => by
  refine ⟨_, ⟨[j], [(j, none)], [], .c (.ro n 1 cs)⟩, hop, ?_, fun n hn => absurd hn List.not_mem_nil, zd6 (by exact zt2), ?_⟩
  · intro τ a w ha hsim K hK
    obtain ⟨φ, F, St, hsim⟩ := hsim
    have e1 : τ.ev xo = .c (.sl j n) := by rw [ha.ev xo (by show xo ∈ #[xo]; simp)]; exact hx
    have e2 : τ.hp j = some ⟨e, 1, n, false, cs⟩ := by rw [ha.hp j List.mem_cons_self]; exact hr
    have v1 := hsim.ev xo
    rw [e1] at v1
    simp only [VR, CR] at v1
    obtain ⟨-, k1, k2, A, c, k3⟩ := v1
    obtain ⟨-, hrow⟩ := hsim.row j _ e2
    rw [k2] at hrow
    obtain ⟨-, vs, fs, g1, g2, g3⟩ := hrow
    have hn' : 0 < n := zc6 hn
    obtain ⟨hl, ⟨-, h0⟩ | ⟨b, cap, cur, hu, -, hh, hnc, hcm, hsz, htk⟩⟩ := g2
    · dsimp only at h0; omega
    obtain ⟨hfs, -⟩ := zq21 (w' := w) (St' := St) (φ' := φ) (K' := τ.Kn) hs g1
    subst hfs
    rw [List.append_nil] at g3
    rw [hu] at g3
    have hob : obl (Value.slice (some ⟨b, 0, none⟩) n cap) = [b] := rfl
    dsimp only at hnc hsz htk hl hh
    have hbF : b ∈ F j := by rw [g3]; exact List.mem_cons_self
    have hfree := hsim.free e2 hbF
    obtain ⟨w1, w2⟩ := zv17 hh
    have hsim2 := (hsim.drop j).give hfree w2
    have hev : a.eval xo = .slice (some ⟨b, 0, none⟩) n cap := hu
    unfold wpOp
    rw [hop]
    have hw := zh19 hsim (b := true) (by rw [ha.gw]; exact hg)
    simp only [hw, if_true]
    refine .inl ?_
    unfold Oper.wp
    have hrun : (execOp a.eval (⟨some t, .convert T T xo, ty, ps, af, gd⟩ : Oper)).run P w = .ok (.value (.slice (some ⟨b, 0, none⟩) n cap)) (w.freeze ⟨b, cur.size, none⟩ 1) := by
      unfold execOp
      have hrc := zp21 (P := P) (n := n) (c := cap) hT hE hh
      simp only [hev]
      simp [Sem.run_bind, hrc]
    rw [hrun]
    have hvr : VR (w.freeze ⟨b, cur.size, none⟩ 1) (fun x => (St x ∧ x < w.heap.size) ∨ x = b) φ ({ τ with hp := upd τ.hp j none } : AS).Kn (.c (.ro n 1 cs)) (.slice (some ⟨b, 0, none⟩) n cap) := by
      simp only [VR, CR]
      refine ⟨trivial, some ⟨b, 0, none⟩, cap, rfl, ⟨hnc, hcm, fun h => by cases h⟩, ?_, fun _ => ⟨b, 0, vs, rfl, .inr rfl, (Array.getElem?_eq_some_iff.1 w1).1, fun q y hq => ?_, ?_⟩⟩
      · rw [← g1.len]; omega
      · have hq2 : cur[q]? = some y := by
          rw [← htk] at hq
          rw [List.getElem?_take] at hq
          split at hq
          · rwa [Array.getElem?_toList] at hq
          · cases hq
        rw [Nat.zero_add]
        unfold World.cell?
        rw [w1]
        exact hq2
      · exact (zq21 hs g1).2
    have h7 := hsim2.put (some t) hvr
    exact hK _ _ ⟨φ, F, _, h7⟩
  · refine zx4 ?_
    show Walk P ops Q C false [] r (AS.put _ (some t) _)
    rw [zo6 (by exact zc6 ht)]; exact h⟩
end
def rdrS (s : ByteArray) (p : PS) : List AC := [.v (.string s), .v (.int .i64 (p.a : Int)), .v (.bool p.b), .v (.int .i64 (p.d : Int))]
def isP (s : ByteArray) (c : Nat) (p : PS) : PS := if isB s c p then p.go 1 else p
set_option maxHeartbeats 4000000 in
theorem zo10 {s : ByteArray} (hs : s.size ≤ 1048576) {c : Nat} (hc : c < 256) {p : PS} : Ctr Try.prog 129 [.c (.pt 0 0), .c (.v (.int .u8 (c : Int)))] [rdrS s p] (.c (.v (.bool (isB s c p)))) [rdrS s (isP s c p)] := by
  obtain ⟨a, d, b⟩ := p
  refine zm2 Try.func129 rfl rfl ?_
  unfold rdrS
  dsimp only
  cases b with
  | true =>
    have hr : isB s c ⟨a, d, true⟩ = false := rfl
    unfold isP
    rw [hr]
    repeat' (first | ((apply f_wo); first | ((apply f_gs); first | refine n_sk ?_) | ((apply f_mv); first | (refine zw1 ?_ ?_ <;> intro hG <;> (try cases hG)) | refine zg1 (v := .c _) ?_ | refine za ?_) | ((apply f_as); first | refine zf1 (v := .c _) ?_ | refine za ?_) | ((apply f_fa); first | refine n_fa ?_ | refine zk1 ?_) | ((apply f_ld); first | refine zp1 ?_ | refine zb1 ?_ | refine n_ld ?_) | ((apply f_bi); first | refine zd1 ?_ | refine zc1 ?_ | refine ze1 ?_ | refine za ?_) | ((apply f_st); first | refine n_st ?_ | refine zt1 ?_) | ((apply zy2); first | refine zy1 ?_ | refine za ?_) | ((apply zs3); first | refine zo1 ?_ | refine za ?_) | ((apply zs1); first | refine zo ?_ | refine zr1 ?_ | refine za ?_) | ((apply f_pk); first | refine zu1 (v := .c _) ?_ | refine za ?_) | refine zx3 ?_ | refine za ?_) | ((apply f_w); first | refine zy ?_ | refine zc ?_) | ((apply d_wo); first | ((apply d_gs); first | refine o_sk ?_ | refine za4 ?_) | ((apply d_bo); (refine o_gm ?_ ?_ <;> intro hG <;> (try cases hG))) | ((apply d_mv); refine zr ?_) | ((apply d_as); refine zr ?_) | ((apply d_fa); first | refine o_fa ?_ | refine zb4 ?_) | ((apply d_ld); first | refine zc4 ?_ | refine zz2 ?_ | refine za3 ?_ | refine zd4 ?_ | refine zr ?_ | refine o_ld ?_) | ((apply d_bi); first | refine zn3 ?_ | refine zm3 ?_ | refine zo3 ?_ | refine zw2 ?_ | refine zw2 (hnu := zl _) ?_ | refine zx1 ?_ | refine zx1 (hnu := zl _) ?_ | refine zr ?_) | ((apply d_st); first | refine o_st ?_ | refine zq4 ?_) | ((apply d_bb); first | refine zl1 ?_ | refine zm1 ?_ | refine zn1 ?_ | refine zw3 ?_ | refine zr ?_) | refine zo4 ?_ | refine zr ?_) | ((apply d_w); first | refine zy ?_ | refine zc ?_) | refine zb fun C => ?_ | refine zp (by kernel_rfl) (by kernel_rfl) fun C => ?_ | refine zn ?_ | refine ze ?_ | refine zh ?_ | refine zi ?_ | refine zx rfl ?_ | refine zv rfl ?_)
    refine zu ?_; refine ret1 rfl zn2 rfl (by first | rfl | (simp [cloL, clo, zg, zf, zk, zj, zd]; done)) rfl ⟨?_, ?_⟩ <;> rfl
  | false =>
    by_cases hlt : a < s.size
    · by_cases he : bAt s a = c
      · have hr : isB s c ⟨a, d, false⟩ = true := by unfold isB; rw [decide_eq_true hlt, he]; simp
        unfold isP
        rw [hr]
        subst he
        repeat' (first | ((apply f_wo); first | ((apply f_gs); first | refine n_sk ?_) | ((apply f_mv); first | (refine zw1 ?_ ?_ <;> intro hG <;> (try cases hG)) | refine zg1 (v := .c _) ?_ | refine za ?_) | ((apply f_as); first | refine zf1 (v := .c _) ?_ | refine za ?_) | ((apply f_fa); first | refine n_fa ?_ | refine zk1 ?_) | ((apply f_ld); first | refine zp1 ?_ | refine zb1 ?_ | refine n_ld ?_) | ((apply f_bi); first | refine zd1 ?_ | refine zc1 ?_ | refine ze1 ?_ | refine za ?_) | ((apply f_st); first | refine n_st ?_ | refine zt1 ?_) | ((apply zy2); first | refine zy1 ?_ | refine za ?_) | ((apply zs3); first | refine zo1 ?_ | refine za ?_) | ((apply zs1); first | refine zo ?_ | refine zr1 ?_ | refine za ?_) | ((apply f_pk); first | refine zu1 (v := .c _) ?_ | refine za ?_) | refine zx3 ?_ | refine za ?_) | ((apply f_w); first | refine zy ?_ | refine zc ?_) | ((apply d_wo); first | ((apply d_gs); first | refine o_sk ?_ | refine za4 ?_) | ((apply d_bo); (refine o_gm ?_ ?_ <;> intro hG <;> (try cases hG))) | ((apply d_mv); refine zr ?_) | ((apply d_as); refine zr ?_) | ((apply d_fa); first | refine o_fa ?_ | refine zb4 ?_) | ((apply d_ld); first | refine zc4 ?_ | refine zz2 ?_ | refine za3 ?_ | refine zd4 ?_ | refine zr ?_ | refine o_ld ?_) | ((apply d_bi); first | refine zn3 ?_ | refine zm3 ?_ | refine zo3 ?_ | refine zw2 ?_ | refine zw2 (hnu := zl _) ?_ | refine zx1 ?_ | refine zx1 (hnu := zl _) ?_ | refine zr ?_) | ((apply d_st); first | refine o_st ?_ | refine zq4 ?_) | ((apply d_bb); first | refine zl1 ?_ | refine zm1 ?_ | refine zn1 ?_ | refine zw3 ?_ | refine zr ?_) | refine zo4 ?_ | refine zr ?_) | ((apply d_w); first | refine zy ?_ | refine zc ?_) | refine zb fun C => ?_ | refine zp (by kernel_rfl) (by kernel_rfl) fun C => ?_ | refine zn ?_ | refine ze ?_ | refine zh ?_ | refine zi ?_)
        · exfalso; simp only [decide_eq_true_iff] at hG; omega
        · refine zt (by rfl) (fun hC => absurd hC (by simp)) fun hC => ?_
          repeat' (first | ((apply f_wo); first | ((apply f_gs); first | refine n_sk ?_) | ((apply f_mv); first | (refine zw1 ?_ ?_ <;> intro hG <;> (try cases hG)) | refine zg1 (v := .c _) ?_ | refine za ?_) | ((apply f_as); first | refine zf1 (v := .c _) ?_ | refine za ?_) | ((apply f_fa); first | refine n_fa ?_ | refine zk1 ?_) | ((apply f_ld); first | refine zp1 ?_ | refine zb1 ?_ | refine n_ld ?_) | ((apply f_bi); first | refine zd1 ?_ | refine zc1 ?_ | refine ze1 ?_ | refine za ?_) | ((apply f_st); first | refine n_st ?_ | refine zt1 ?_) | ((apply zy2); first | refine zy1 ?_ | refine za ?_) | ((apply zs3); first | refine zo1 ?_ | refine za ?_) | ((apply zs1); first | refine zo ?_ | refine zr1 ?_ | refine za ?_) | ((apply f_pk); first | refine zu1 (v := .c _) ?_ | refine za ?_) | refine zx3 ?_ | refine za ?_) | ((apply f_w); first | refine zy ?_ | refine zc ?_) | ((apply d_wo); first | ((apply d_gs); first | refine o_sk ?_ | refine za4 ?_) | ((apply d_bo); (refine o_gm ?_ ?_ <;> intro hG <;> (try cases hG))) | ((apply d_mv); refine zr ?_) | ((apply d_as); refine zr ?_) | ((apply d_fa); first | refine o_fa ?_ | refine zb4 ?_) | ((apply d_ld); first | refine zc4 ?_ | refine zz2 ?_ | refine za3 ?_ | refine zd4 ?_ | refine zr ?_ | refine o_ld ?_) | ((apply d_bi); first | refine zn3 ?_ | refine zm3 ?_ | refine zo3 ?_ | refine zw2 ?_ | refine zw2 (hnu := zl _) ?_ | refine zx1 ?_ | refine zx1 (hnu := zl _) ?_ | refine zr ?_) | ((apply d_st); first | refine o_st ?_ | refine zq4 ?_) | ((apply d_bb); first | refine zl1 ?_ | refine zm1 ?_ | refine zn1 ?_ | refine zw3 ?_ | refine zr ?_) | refine zo4 ?_ | refine zr ?_) | ((apply d_w); first | refine zy ?_ | refine zc ?_) | refine zb fun C => ?_ | refine zp (by kernel_rfl) (by kernel_rfl) fun C => ?_ | refine zn ?_ | refine ze ?_ | refine zh ?_ | refine zi ?_ | refine zx rfl ?_ | refine zv rfl ?_)
          refine zu ?_; refine ret1 rfl zn2 rfl (by first | rfl | (simp [cloL, clo, zg, zf, zk, zj, zd]; done)) rfl ⟨?_, ?_⟩ <;> rfl
      · have hr : isB s c ⟨a, d, false⟩ = false := by unfold isB; simp [he]
        unfold isP
        rw [hr]
        repeat' (first | ((apply f_wo); first | ((apply f_gs); first | refine n_sk ?_) | ((apply f_mv); first | (refine zw1 ?_ ?_ <;> intro hG <;> (try cases hG)) | refine zg1 (v := .c _) ?_ | refine za ?_) | ((apply f_as); first | refine zf1 (v := .c _) ?_ | refine za ?_) | ((apply f_fa); first | refine n_fa ?_ | refine zk1 ?_) | ((apply f_ld); first | refine zp1 ?_ | refine zb1 ?_ | refine n_ld ?_) | ((apply f_bi); first | refine zd1 ?_ | refine zc1 ?_ | refine ze1 ?_ | refine za ?_) | ((apply f_st); first | refine n_st ?_ | refine zt1 ?_) | ((apply zy2); first | refine zy1 ?_ | refine za ?_) | ((apply zs3); first | refine zo1 ?_ | refine za ?_) | ((apply zs1); first | refine zo ?_ | refine zr1 ?_ | refine za ?_) | ((apply f_pk); first | refine zu1 (v := .c _) ?_ | refine za ?_) | refine zx3 ?_ | refine za ?_) | ((apply f_w); first | refine zy ?_ | refine zc ?_) | ((apply d_wo); first | ((apply d_gs); first | refine o_sk ?_ | refine za4 ?_) | ((apply d_bo); (refine o_gm ?_ ?_ <;> intro hG <;> (try cases hG))) | ((apply d_mv); refine zr ?_) | ((apply d_as); refine zr ?_) | ((apply d_fa); first | refine o_fa ?_ | refine zb4 ?_) | ((apply d_ld); first | refine zc4 ?_ | refine zz2 ?_ | refine za3 ?_ | refine zd4 ?_ | refine zr ?_ | refine o_ld ?_) | ((apply d_bi); first | refine zn3 ?_ | refine zm3 ?_ | refine zo3 ?_ | refine zw2 ?_ | refine zw2 (hnu := zl _) ?_ | refine zx1 ?_ | refine zx1 (hnu := zl _) ?_ | refine zr ?_) | ((apply d_st); first | refine o_st ?_ | refine zq4 ?_) | ((apply d_bb); first | refine zl1 ?_ | refine zm1 ?_ | refine zn1 ?_ | refine zw3 ?_ | refine zr ?_) | refine zo4 ?_ | refine zr ?_) | ((apply d_w); first | refine zy ?_ | refine zc ?_) | refine zb fun C => ?_ | refine zp (by kernel_rfl) (by kernel_rfl) fun C => ?_ | refine zn ?_ | refine ze ?_ | refine zh ?_ | refine zi ?_)
        · exfalso; simp only [decide_eq_true_iff] at hG; omega
        · refine zt (by rfl) (fun hC => ?_) fun hC => absurd (bne_eq_false_iff_eq.1 hC) (by omega)
          repeat' (first | ((apply f_wo); first | ((apply f_gs); first | refine n_sk ?_) | ((apply f_mv); first | (refine zw1 ?_ ?_ <;> intro hG <;> (try cases hG)) | refine zg1 (v := .c _) ?_ | refine za ?_) | ((apply f_as); first | refine zf1 (v := .c _) ?_ | refine za ?_) | ((apply f_fa); first | refine n_fa ?_ | refine zk1 ?_) | ((apply f_ld); first | refine zp1 ?_ | refine zb1 ?_ | refine n_ld ?_) | ((apply f_bi); first | refine zd1 ?_ | refine zc1 ?_ | refine ze1 ?_ | refine za ?_) | ((apply f_st); first | refine n_st ?_ | refine zt1 ?_) | ((apply zy2); first | refine zy1 ?_ | refine za ?_) | ((apply zs3); first | refine zo1 ?_ | refine za ?_) | ((apply zs1); first | refine zo ?_ | refine zr1 ?_ | refine za ?_) | ((apply f_pk); first | refine zu1 (v := .c _) ?_ | refine za ?_) | refine zx3 ?_ | refine za ?_) | ((apply f_w); first | refine zy ?_ | refine zc ?_) | ((apply d_wo); first | ((apply d_gs); first | refine o_sk ?_ | refine za4 ?_) | ((apply d_bo); (refine o_gm ?_ ?_ <;> intro hG <;> (try cases hG))) | ((apply d_mv); refine zr ?_) | ((apply d_as); refine zr ?_) | ((apply d_fa); first | refine o_fa ?_ | refine zb4 ?_) | ((apply d_ld); first | refine zc4 ?_ | refine zz2 ?_ | refine za3 ?_ | refine zd4 ?_ | refine zr ?_ | refine o_ld ?_) | ((apply d_bi); first | refine zn3 ?_ | refine zm3 ?_ | refine zo3 ?_ | refine zw2 ?_ | refine zw2 (hnu := zl _) ?_ | refine zx1 ?_ | refine zx1 (hnu := zl _) ?_ | refine zr ?_) | ((apply d_st); first | refine o_st ?_ | refine zq4 ?_) | ((apply d_bb); first | refine zl1 ?_ | refine zm1 ?_ | refine zn1 ?_ | refine zw3 ?_ | refine zr ?_) | refine zo4 ?_ | refine zr ?_) | ((apply d_w); first | refine zy ?_ | refine zc ?_) | refine zb fun C => ?_ | refine zp (by kernel_rfl) (by kernel_rfl) fun C => ?_ | refine zn ?_ | refine ze ?_ | refine zh ?_ | refine zi ?_ | refine zx rfl ?_ | refine zv rfl ?_)
          refine zu ?_; refine ret1 rfl zn2 rfl (by first | rfl | (simp [cloL, clo, zg, zf, zk, zj, zd]; done)) rfl ⟨?_, ?_⟩ <;> rfl
    · have hr : isB s c ⟨a, d, false⟩ = false := by unfold isB; simp [hlt]
      unfold isP
      rw [hr]
      repeat' (first | ((apply f_wo); first | ((apply f_gs); first | refine n_sk ?_) | ((apply f_mv); first | (refine zw1 ?_ ?_ <;> intro hG <;> (try cases hG)) | refine zg1 (v := .c _) ?_ | refine za ?_) | ((apply f_as); first | refine zf1 (v := .c _) ?_ | refine za ?_) | ((apply f_fa); first | refine n_fa ?_ | refine zk1 ?_) | ((apply f_ld); first | refine zp1 ?_ | refine zb1 ?_ | refine n_ld ?_) | ((apply f_bi); first | refine zd1 ?_ | refine zc1 ?_ | refine ze1 ?_ | refine za ?_) | ((apply f_st); first | refine n_st ?_ | refine zt1 ?_) | ((apply zy2); first | refine zy1 ?_ | refine za ?_) | ((apply zs3); first | refine zo1 ?_ | refine za ?_) | ((apply zs1); first | refine zo ?_ | refine zr1 ?_ | refine za ?_) | ((apply f_pk); first | refine zu1 (v := .c _) ?_ | refine za ?_) | refine zx3 ?_ | refine za ?_) | ((apply f_w); first | refine zy ?_ | refine zc ?_) | ((apply d_wo); first | ((apply d_gs); first | refine o_sk ?_ | refine za4 ?_) | ((apply d_bo); (refine o_gm ?_ ?_ <;> intro hG <;> (try cases hG))) | ((apply d_mv); refine zr ?_) | ((apply d_as); refine zr ?_) | ((apply d_fa); first | refine o_fa ?_ | refine zb4 ?_) | ((apply d_ld); first | refine zc4 ?_ | refine zz2 ?_ | refine za3 ?_ | refine zd4 ?_ | refine zr ?_ | refine o_ld ?_) | ((apply d_bi); first | refine zn3 ?_ | refine zm3 ?_ | refine zo3 ?_ | refine zw2 ?_ | refine zw2 (hnu := zl _) ?_ | refine zx1 ?_ | refine zx1 (hnu := zl _) ?_ | refine zr ?_) | ((apply d_st); first | refine o_st ?_ | refine zq4 ?_) | ((apply d_bb); first | refine zl1 ?_ | refine zm1 ?_ | refine zn1 ?_ | refine zw3 ?_ | refine zr ?_) | refine zo4 ?_ | refine zr ?_) | ((apply d_w); first | refine zy ?_ | refine zc ?_) | refine zb fun C => ?_ | refine zp (by kernel_rfl) (by kernel_rfl) fun C => ?_ | refine zn ?_ | refine ze ?_ | refine zh ?_ | refine zi ?_)
      · refine zx rfl ?_
        repeat' (first | ((apply f_wo); first | ((apply f_gs); first | refine n_sk ?_) | ((apply f_mv); first | (refine zw1 ?_ ?_ <;> intro hG <;> (try cases hG)) | refine zg1 (v := .c _) ?_ | refine za ?_) | ((apply f_as); first | refine zf1 (v := .c _) ?_ | refine za ?_) | ((apply f_fa); first | refine n_fa ?_ | refine zk1 ?_) | ((apply f_ld); first | refine zp1 ?_ | refine zb1 ?_ | refine n_ld ?_) | ((apply f_bi); first | refine zd1 ?_ | refine zc1 ?_ | refine ze1 ?_ | refine za ?_) | ((apply f_st); first | refine n_st ?_ | refine zt1 ?_) | ((apply zy2); first | refine zy1 ?_ | refine za ?_) | ((apply zs3); first | refine zo1 ?_ | refine za ?_) | ((apply zs1); first | refine zo ?_ | refine zr1 ?_ | refine za ?_) | ((apply f_pk); first | refine zu1 (v := .c _) ?_ | refine za ?_) | refine zx3 ?_ | refine za ?_) | ((apply f_w); first | refine zy ?_ | refine zc ?_) | ((apply d_wo); first | ((apply d_gs); first | refine o_sk ?_ | refine za4 ?_) | ((apply d_bo); (refine o_gm ?_ ?_ <;> intro hG <;> (try cases hG))) | ((apply d_mv); refine zr ?_) | ((apply d_as); refine zr ?_) | ((apply d_fa); first | refine o_fa ?_ | refine zb4 ?_) | ((apply d_ld); first | refine zc4 ?_ | refine zz2 ?_ | refine za3 ?_ | refine zd4 ?_ | refine zr ?_ | refine o_ld ?_) | ((apply d_bi); first | refine zn3 ?_ | refine zm3 ?_ | refine zo3 ?_ | refine zw2 ?_ | refine zw2 (hnu := zl _) ?_ | refine zx1 ?_ | refine zx1 (hnu := zl _) ?_ | refine zr ?_) | ((apply d_st); first | refine o_st ?_ | refine zq4 ?_) | ((apply d_bb); first | refine zl1 ?_ | refine zm1 ?_ | refine zn1 ?_ | refine zw3 ?_ | refine zr ?_) | refine zo4 ?_ | refine zr ?_) | ((apply d_w); first | refine zy ?_ | refine zc ?_) | refine zb fun C => ?_ | refine zp (by kernel_rfl) (by kernel_rfl) fun C => ?_ | refine zn ?_ | refine ze ?_ | refine zh ?_ | refine zi ?_ | refine zx rfl ?_ | refine zv rfl ?_)
        refine zu ?_; refine ret1 rfl zn2 rfl (by first | rfl | (simp [cloL, clo, zg, zf, zk, zj, zd]; done)) rfl ⟨?_, ?_⟩ <;> rfl
      · exfalso; simp only [decide_eq_false_iff_not] at hG; omega
theorem zp10 {s : ByteArray} {p : PS} : Ctr Try.prog 163 [.c (.pt 0 0)] [rdrS s p] (.ag (owE zeroR)) [rdrS s p.bad] := by
  obtain ⟨a, d, b⟩ := p
  refine zm2 Try.func163 rfl rfl ?_
  unfold rdrS
  dsimp only
  repeat' (first | ((apply f_wo); first | ((apply f_mv); first | refine zg1 (v := .c _) ?_ | refine za ?_) | ((apply f_fa); first | refine n_fa ?_ | refine zk1 ?_) | ((apply f_st); first | refine n_st ?_ | refine zt1 ?_) | refine n_al ?_ | refine za ?_) | ((apply f_w); first | refine zy ?_ | refine zc ?_) | refine zb fun C => ?_ | refine zn ?_ | refine ze ?_ | refine zh ?_ | refine zi ?_ | refine zx rfl ?_ | refine zv rfl ?_)
  refine zm4 (ze6 900 (i := 2) 141 3 rfl rfl (pre := [_, _]) (post := []) rfl) ?_; refine zu ?_; refine ret1 rfl (zl3 (zu2 rfl (zu2 rfl (zk3 rfl rfl rfl (by first | exact zg _ | exact zf _ | exact bytC_clo _ | (simp [cloL, clo, zg, zf, zk, zj, zd]; done) | (simp [cloL, clo, opC, opL, zg, zf, zk, zj, zd]; done)) zs2)))) rfl (by first | rfl | (simp [cloL, clo, zg, zf, zk, zj, zd]; done)) rfl ⟨?_, ?_⟩ <;> rfl
theorem zj7 {s : ByteArray} {c : Nat} {p : PS} (h : isB s c p = true) : isP s c p = p.go 1 := if_pos h
theorem zq10 {s : ByteArray} {c : Nat} {p : PS} (h : isB s c p = false) : isP s c p = p := by unfold isP; rw [h]; rfl
set_option maxHeartbeats 4000000 in
theorem zr21 {s : ByteArray} (hs : s.size ≤ 1048576) {alt : PS → E × PS} {p : PS} (hp : Pre s p) (hb : p.b = false) (hg : p.d ≤ 7 → GoodS s ⟨p.a, p.d + 1, p.b⟩ (alt ⟨p.a, p.d + 1, p.b⟩))
    (ha : p.d ≤ 7 → Ctr Try.prog 120 [.c (.pt 0 0)] [rdrS s ⟨p.a, p.d + 1, p.b⟩] (.ag (owE (alt ⟨p.a, p.d + 1, p.b⟩).1)) [rdrS s (alt ⟨p.a, p.d + 1, p.b⟩).2]) :
    Ctr Try.prog 164 [.c (.pt 0 0)] [rdrS s p] (.ag (owE (groupS s alt p).1)) [rdrS s (groupS s alt p).2] := by
  obtain ⟨a, d, b⟩ := p
  have hb : b = false := hb
  subst hb
  dsimp only at ha hg
  have hpd : d ≤ 8 := hp.2.2 rfl
  have h41 := zo10 hs (c := 41) (by omega) (p := ⟨a, d, false⟩)
  cases h1 : isB s 41 ⟨a, d, false⟩ with
  | true =>
    have hr : groupS s alt ⟨a, d, false⟩ = (rexE 9 ByteArray.empty [], ⟨a + 1, d, false⟩) := by unfold groupS; rw [if_pos h1]; rfl
    rw [hr]
    rw [zj7 h1, h1] at h41
    refine zm2 Try.func164 rfl rfl ?_
    unfold rdrS at h41 ⊢
    dsimp only [PS.go] at h41 ⊢
    repeat' (first | ((apply f_wo); first | ((apply f_mv); first | refine zg1 (v := .c _) ?_ | refine za ?_) | ((apply f_fa); first | refine n_fa ?_ | refine zk1 ?_) | ((apply f_ld); first | refine zp1 ?_ | refine zb1 ?_ | refine zw ?_ | refine zi1 ?_ | refine n_ld ?_) | ((apply f_ca); first | refine zl2 0 (h41) ?_) | ((apply f_st); first | refine n_st ?_ | refine zt1 ?_) | ((apply zq3); first | refine zh1 ?_ | refine za ?_) | ((apply zs1); first | refine zo ?_ | refine zr1 ?_ | refine za ?_) | ((apply f_no); first | refine zj2 ?_ | refine za ?_) | ((apply f_bb); first | refine zg2 ?_ | refine zh2 ?_ | refine za ?_) | refine n_al ?_ | refine za ?_) | ((apply f_w); first | refine zy ?_ | refine zc ?_) | refine zb fun C => ?_ | refine zn ?_ | refine ze ?_ | refine zh ?_ | refine zi ?_ | refine zx rfl ?_ | refine zv rfl ?_)
    refine zm4 (ze6 900 (i := 2) 141 3 rfl rfl (pre := [_, _]) (post := []) rfl) ?_; refine zu ?_; refine ret1 rfl (zl3 (zu2 rfl (zu2 rfl (zk3 rfl rfl rfl (by first | exact zg _ | exact zf _ | exact bytC_clo _ | (simp [cloL, clo, zg, zf, zk, zj, zd]; done) | (simp [cloL, clo, opC, opL, zg, zf, zk, zj, zd]; done)) zs2)))) rfl (by first | rfl | (simp [cloL, clo, zg, zf, zk, zj, zd]; done)) rfl ⟨?_, ?_⟩ <;> rfl
  | false =>
    rw [zq10 h1, h1] at h41
    by_cases h8 : 8 < d + 1
    · have hr : groupS s alt ⟨a, d, false⟩ = (zeroR, ⟨a, d + 1, true⟩) := by unfold groupS; rw [if_neg (by rw [h1]; simp), if_pos h8]
      rw [hr]
      have hbad := zp10 (s := s) (p := ⟨a, d + 1, false⟩)
      refine zm2 Try.func164 rfl rfl ?_
      unfold rdrS at h41 hbad ⊢
      dsimp only [PS.bad] at h41 hbad ⊢
      repeat' (first | ((apply f_wo); first | ((apply f_mv); first | refine zg1 (v := .c _) ?_ | refine za ?_) | ((apply f_fa); first | refine n_fa ?_ | refine zk1 ?_) | ((apply f_ld); first | refine zp1 ?_ | refine zb1 ?_ | refine zw ?_ | refine zi1 ?_ | refine n_ld ?_) | ((apply f_ca); first | refine zl2 0 (h41) ?_ | refine zl2 0 (hbad) ?_) | ((apply f_st); first | refine n_st ?_ | refine zt1 ?_) | ((apply zq3); first | refine zh1 ?_ | refine za ?_) | ((apply zs1); first | refine zo ?_ | refine zr1 ?_ | refine za ?_) | ((apply f_no); first | refine zj2 ?_ | refine za ?_) | ((apply f_bb); first | refine zg2 ?_ | refine zh2 ?_ | refine za ?_) | refine n_al ?_ | refine za ?_) | ((apply f_w); first | refine zy ?_ | refine zc ?_) | refine zb fun C => ?_ | refine zn ?_ | refine ze ?_ | refine zh ?_ | refine zi ?_ | refine zx rfl ?_ | refine zv rfl ?_)
      refine zt (by rfl) (fun hC => ?_) fun hC => by exfalso; simp only [decide_eq_false_iff_not] at hC; omega
      repeat' (first | ((apply f_wo); first | ((apply f_mv); first | refine zg1 (v := .c _) ?_ | refine za ?_) | ((apply f_fa); first | refine n_fa ?_ | refine zk1 ?_) | ((apply f_ld); first | refine zp1 ?_ | refine zb1 ?_ | refine zw ?_ | refine zi1 ?_ | refine n_ld ?_) | ((apply f_ca); first | refine zl2 0 (h41) ?_ | refine zl2 0 (hbad) ?_) | ((apply f_st); first | refine n_st ?_ | refine zt1 ?_) | ((apply zq3); first | refine zh1 ?_ | refine za ?_) | ((apply zs1); first | refine zo ?_ | refine zr1 ?_ | refine za ?_) | ((apply f_no); first | refine zj2 ?_ | refine za ?_) | ((apply f_bb); first | refine zg2 ?_ | refine zh2 ?_ | refine za ?_) | refine n_al ?_ | refine za ?_) | ((apply f_w); first | refine zy ?_ | refine zc ?_) | refine zb fun C => ?_ | refine zn ?_ | refine ze ?_ | refine zh ?_ | refine zi ?_ | refine zx rfl ?_ | refine zv rfl ?_)
      refine zu ?_; refine ret1 rfl (zl3 (zu2 rfl (zu2 rfl (zk3 rfl rfl rfl (by first | exact zg _ | exact zf _ | exact bytC_clo _ | (simp [cloL, clo, zg, zf, zk, zj, zd]; done) | (simp [cloL, clo, opC, opL, zg, zf, zk, zj, zd]; done)) zs2)))) rfl (by first | rfl | (simp [cloL, clo, zg, zf, zk, zj, zd]; done)) rfl ⟨?_, ?_⟩ <;> rfl
    · have hic := ha (by omega)
      obtain ⟨g1, g2, g3, g4, g5, g6⟩ := hg (by omega)
      clear ha hg
      have hr : groupS s alt ⟨a, d, false⟩ = if isB s 41 ⟨(alt ⟨a, d + 1, false⟩).2.a, (alt ⟨a, d + 1, false⟩).2.d - 1, (alt ⟨a, d + 1, false⟩).2.b⟩ then ((alt ⟨a, d + 1, false⟩).1, ⟨(alt ⟨a, d + 1, false⟩).2.a + 1, (alt ⟨a, d + 1, false⟩).2.d - 1, (alt ⟨a, d + 1, false⟩).2.b⟩) else (zeroR, ⟨(alt ⟨a, d + 1, false⟩).2.a, (alt ⟨a, d + 1, false⟩).2.d - 1, true⟩) := by unfold groupS; rw [if_neg (by rw [h1]; simp), if_neg h8]; rfl
      rw [hr]
      clear hr
      obtain ⟨⟨e, q⟩, hq⟩ : ∃ r, alt ⟨a, d + 1, false⟩ = r := ⟨_, rfl⟩
      rw [hq] at hic g1 g2 g3 g4 g5 g6 ⊢
      dsimp only at hic g1 g2 g3 g4 g5 g6 ⊢
      cases g1 with
      | mk k t l hk ht hl2 =>
      obtain ⟨qa, qd, qb⟩ := q
      dsimp only at hic g2 g3 g4 g5 g6 ⊢
      have hqd : ((qd : Nat) : Int) - 1 = ((qd - 1 : Nat) : Int) := by omega
      have hbad := zp10 (s := s) (p := ⟨qa, qd - 1, qb⟩)
      have h41b := zo10 hs (c := 41) (by omega) (p := ⟨qa, qd - 1, qb⟩)
      cases h2 : isB s 41 ⟨qa, qd - 1, qb⟩ with
      | true =>
        rw [zj7 h2, h2] at h41b
        rw [if_pos rfl]
        refine zm2 Try.func164 rfl rfl ?_
        unfold rdrS at h41 hic h41b ⊢
        dsimp only [PS.go] at h41 hic h41b ⊢
        rw [← hqd] at h41b ⊢
        repeat' (first | ((apply f_wo); first | ((apply f_mv); first | refine zg1 (v := .c _) ?_ | refine za ?_) | ((apply f_fa); first | refine n_fa ?_ | refine zk1 ?_) | ((apply f_ld); first | refine zp1 ?_ | refine zb1 ?_ | refine zw ?_ | refine zi1 ?_ | refine n_ld ?_) | ((apply f_ca); first | refine zl2 0 (h41) ?_ | refine zl2 0 (hic) ?_ | refine zl2 0 (h41b) ?_) | ((apply f_st); first | refine n_st ?_ | refine zt1 ?_) | ((apply zq3); first | refine zh1 ?_ | refine za ?_) | ((apply zs1); first | refine zo ?_ | refine zr1 ?_ | refine za ?_) | ((apply f_no); first | refine zj2 ?_ | refine za ?_) | ((apply f_bb); first | refine zg2 ?_ | refine zh2 ?_ | refine za ?_) | refine n_al ?_ | refine za ?_) | ((apply f_w); first | refine zy ?_ | refine zc ?_) | refine zb fun C => ?_ | refine zn ?_ | refine ze ?_ | refine zh ?_ | refine zi ?_ | refine zx rfl ?_ | refine zv rfl ?_)
        refine zt (by rfl) (fun hC => by exfalso; simp only [decide_eq_true_iff] at hC; omega) fun hC => ?_
        repeat' (first | ((apply f_wo); first | ((apply f_mv); first | refine zg1 (v := .c _) ?_ | refine za ?_) | ((apply f_fa); first | refine n_fa ?_ | refine zk1 ?_) | ((apply f_ld); first | refine zp1 ?_ | refine zb1 ?_ | refine zw ?_ | refine zi1 ?_ | refine n_ld ?_) | ((apply f_ca); first | refine zl2 0 (h41) ?_ | refine zl2 0 (hic) ?_ | refine zl2 0 (h41b) ?_) | ((apply f_st); first | refine n_st ?_ | refine zt1 ?_) | ((apply zq3); first | refine zh1 ?_ | refine za ?_) | ((apply zs1); first | refine zo ?_ | refine zr1 ?_ | refine za ?_) | ((apply f_no); first | refine zj2 ?_ | refine za ?_) | ((apply f_bb); first | refine zg2 ?_ | refine zh2 ?_ | refine za ?_) | refine n_al ?_ | refine za ?_) | ((apply f_w); first | refine zy ?_ | refine zc ?_) | refine zb fun C => ?_ | refine zn ?_ | refine ze ?_ | refine zh ?_ | refine zi ?_ | refine zx rfl ?_ | refine zv rfl ?_)
        refine zu ?_; refine ret1 rfl (zl3 (zu2 rfl (zu2 rfl (zk3 rfl rfl rfl (by first | exact zg _ | exact zf _ | exact bytC_clo _ | (simp [cloL, clo, zg, zf, zk, zj, zd]; done) | (simp [cloL, clo, opC, opL, zg, zf, zk, zj, zd]; done)) zs2)))) rfl (by first | rfl | (simp [cloL, clo, zg, zf, zk, zj, zd]; done)) rfl ⟨?_, ?_⟩ <;> rfl
      | false =>
        rw [zq10 h2, h2] at h41b
        rw [if_neg (by simp)]
        refine zm2 Try.func164 rfl rfl ?_
        unfold rdrS at h41 hic h41b hbad ⊢
        dsimp only [PS.bad] at h41 hic h41b hbad ⊢
        rw [← hqd] at h41b hbad ⊢
        repeat' (first | ((apply f_wo); first | ((apply f_mv); first | refine zg1 (v := .c _) ?_ | refine za ?_) | ((apply f_fa); first | refine n_fa ?_ | refine zk1 ?_) | ((apply f_ld); first | refine zp1 ?_ | refine zb1 ?_ | refine zw ?_ | refine zi1 ?_ | refine n_ld ?_) | ((apply f_ca); first | refine zl2 0 (h41) ?_ | refine zl2 0 (hic) ?_ | refine zl2 0 (h41b) ?_ | refine zl2 0 (hbad) ?_) | ((apply f_st); first | refine n_st ?_ | refine zt1 ?_) | ((apply zq3); first | refine zh1 ?_ | refine za ?_) | ((apply zs1); first | refine zo ?_ | refine zr1 ?_ | refine za ?_) | ((apply f_no); first | refine zj2 ?_ | refine za ?_) | ((apply f_bb); first | refine zg2 ?_ | refine zh2 ?_ | refine za ?_) | refine n_al ?_ | refine za ?_) | ((apply f_w); first | refine zy ?_ | refine zc ?_) | refine zb fun C => ?_ | refine zn ?_ | refine ze ?_ | refine zh ?_ | refine zi ?_ | refine zx rfl ?_ | refine zv rfl ?_)
        refine zt (by rfl) (fun hC => by exfalso; simp only [decide_eq_true_iff] at hC; omega) fun hC => ?_
        repeat' (first | ((apply f_wo); first | ((apply f_mv); first | refine zg1 (v := .c _) ?_ | refine za ?_) | ((apply f_fa); first | refine n_fa ?_ | refine zk1 ?_) | ((apply f_ld); first | refine zp1 ?_ | refine zb1 ?_ | refine zw ?_ | refine zi1 ?_ | refine n_ld ?_) | ((apply f_ca); first | refine zl2 0 (h41) ?_ | refine zl2 0 (hic) ?_ | refine zl2 0 (h41b) ?_ | refine zl2 0 (hbad) ?_) | ((apply f_st); first | refine n_st ?_ | refine zt1 ?_) | ((apply zq3); first | refine zh1 ?_ | refine za ?_) | ((apply zs1); first | refine zo ?_ | refine zr1 ?_ | refine za ?_) | ((apply f_no); first | refine zj2 ?_ | refine za ?_) | ((apply f_bb); first | refine zg2 ?_ | refine zh2 ?_ | refine za ?_) | refine n_al ?_ | refine za ?_) | ((apply f_w); first | refine zy ?_ | refine zc ?_) | refine zb fun C => ?_ | refine zn ?_ | refine ze ?_ | refine zh ?_ | refine zi ?_ | refine zx rfl ?_ | refine zv rfl ?_)
        refine zu ?_; refine ret1 rfl (zl3 (zu2 rfl (zu2 rfl (zk3 rfl rfl rfl (by first | exact zg _ | exact zf _ | exact bytC_clo _ | (simp [cloL, clo, zg, zf, zk, zj, zd]; done) | (simp [cloL, clo, opC, opL, zg, zf, zk, zj, zd]; done)) zs2)))) rfl (by first | rfl | (simp [cloL, clo, zg, zf, zk, zj, zd]; done)) rfl ⟨?_, ?_⟩ <;> rfl
end Go.Proofs.Ytghljnfbbaklnaa
