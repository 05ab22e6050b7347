/- GetModule of both sides over data with places. -/
import Derived.Test.YtghljnfbbaklnaaGreatGetModuleAJ
namespace Go.Proofs.YtghljnfbbaklnaaGreat
open Go.RowKit
set_option maxRecDepth 100000
theorem zb20 {x:E}(h:x.Ty Tryz.prog 5):∃z:Int,x=.int .u8 z∧0≤z∧z≤255:=by
 cases x with
 | int k z =>
  unfold E.Ty at h
  obtain⟨h1,h2⟩:=h
  rw [Tryz.underlying5] at h1
  obtain rfl:IntKind.u8=k:=by injection h1 with h1;injection h1
  have e1:IntKind.u8.max=255:=by decide
  have e2:IntKind.u8.min=0:=by decide
  simp only [Lit.wf,Bool.and_eq_true,decide_eq_true_iff] at h2
  rw [e1,e2] at h2
  exact⟨z,rfl,h2.1,h2.2⟩
 | bool b=>unfold E.Ty at h;rw [Tryz.underlying5] at h;cases h
 | str s=>unfold E.Ty at h;rw [Tryz.underlying5] at h;cases h.1
 | agg fs=>unfold E.Ty at h;obtain⟨F,h,-⟩:=h;rw [Tryz.underlying5] at h;cases h
 | lst k T A c l=>unfold E.Ty at h;rw [Tryz.underlying5] at h;cases h.1
theorem zg18:∀{l:List E},(∀x∈l,x.Ty Tryz.prog 5)→bI (bytE l)=l
 | [],_=>rfl
 | x :: r,h=>by
  obtain⟨z,rfl,h0,h1⟩:=zb20 (h x (by simp))
  have ih:=zg18 (l:=r) fun y hy=>h y (by simp [hy])
  show E.int .u8 (((UInt8.ofNat z.toNat).toNat:Nat):Int) :: bI (bytE r)=_
  rw [ih]
  congr 2
  simp only [UInt8.toNat_ofNat']
  omega
theorem szL_u8:∀{l:List E},(∀x∈l,x.Ty Tryz.prog 5)→E.szL l=0
 | [],_=>rfl
 | x :: r,h=>by
  obtain⟨z,rfl,-⟩:=zb20 (h x (by simp))
  show E.sz (.int .u8 z)+E.szL r=0
  rw [szL_u8 fun y hy=>h y (by simp [hy])];rfl
def lsE:E→List E
 | .lst _ _ _ _ l=>l
 | _=>[]
def getMp (e:E):E×Bool:=getM false (bytE (lsE e))
def getME (e:E):E:=(getMp e).1
def getMB (e:E):Bool:=(getMp e).2
theorem zs14 (l:List E):(bytE l).length=l.length:=by simp [bytE]
theorem zeroM_Ty:zeroM.Ty Tryz.prog 33:=mE_Ty (fun e he=>(List.not_mem_nil he).elim) (fun e he=>(List.not_mem_nil he).elim) (by decide) (by decide) (fun e he=>(List.not_mem_nil he).elim)
theorem getM_Ty {bs:List UInt8}(hn:bs.length≤1073741824):(getM false bs).1.Ty Tryz.prog 33:=by
 unfold getM
 split
 ·exact za20 false hn
 ·exact zeroM_Ty
theorem getM_sz {bs:List UInt8}(hn:bs.length≤1048576):(getM false bs).1.sz≤1048576:=by
 unfold getM
 split
 ·rename_i h
  unfold gmOk at h
  simp only [Bool.and_eq_true,Bool.not_eq_true'] at h
  have:=gmE_sz (bs:=bs) false (by omega) h.1
  dsimp only
  omega
 ·decide
theorem zc20 {b:E}(hb:b.Ty Tryz.prog 28)(z:b.sz≤1048576):(bytE (lsE b)).length≤1048576:=by
 obtain⟨A,c,l,rfl,h1,-⟩:=hb.lst_ Tryz.underlying28 (k:=1) (by kernel_rfl)
 rw [zs14]
 simp only [E.sz] at z
 show l.length≤_
 omega
theorem zt14 {b:E}(hb:b.Ty Tryz.prog 28)(z:b.sz≤1048576):(getME b).Ty Tryz.prog 33:=getM_Ty (by have:=zc20 hb z;omega)
theorem getME_sz {b:E}(hb:b.Ty Tryz.prog 28)(z:b.sz≤1048576):(getME b).sz≤1073741824:=by
 have:=getM_sz (zc20 hb z)
 show (getM false (bytE (lsE b))).1.sz≤_
 omega
theorem owE_avO {f:FuncId}{ins:List AV}{D:E}{y:AV}(h:Ctr Tryz.prog f ins [] (.tu [.ag (owE D),y]) [])(hD:D.Ty Tryz.prog 33):Ctr Tryz.prog f ins [] (.tu [avO D,y]) []:=by
 obtain⟨fs,rfl,-⟩:=hD.agg_ Tryz.underlying33
 exact h
theorem zt11 {b:E}(hb:b.Ty Tryz.prog 28)(z:b.sz≤1048576):Ctr Tryz.prog 24 [avI b] [] (.tu [avO (getME b),.c (.v (.bool (getMB b)))]) []:=by
 have hl:=zc20 hb z
 refine owE_avO ?_ (zt14 hb z)
 have c:=zs11 hl
 obtain⟨A,c0,l,rfl,h1,-⟩:=hb.lst_ Tryz.underlying28 (k:=1) (by kernel_rfl)
 rw [show lsE (.lst 1 5 A c0 l)=l from rfl,zg18 h1,zs14] at c
 exact c
theorem zu11 {b:E}(hb:b.Ty Tryz.prog 28)(z:b.sz≤1048576):Ctr Tryz.prog 22 [avI b] [] (.tu [avO (getME b),.c (.v (.bool (getMB b)))]) []:=by
 have hl:=zc20 hb z
 refine owE_avO ?_ (zt14 hb z)
 have c:=zr11 hl
 rw [getM_same] at c
 obtain⟨A,c0,l,rfl,h1,-⟩:=hb.lst_ Tryz.underlying28 (k:=1) (by kernel_rfl)
 rw [show lsE (.lst 1 5 A c0 l)=l from rfl,zg18 h1,zs14] at c
 exact c
noncomputable def getMoP (b:E):E×Bool:=liftS (fun q:E=>(q.Ty Tryz.prog 28∧q.d=b)) (fun q=>((getME q).d,(getMB q))) (b,false)
noncomputable def getMoD (b:E):E:=(getMoP b).1
noncomputable def getMoD1 (b:E):Bool:=(getMoP b).2
theorem zt16 {f:FuncId}(hf:∀{b:E} (_:b.Ty Tryz.prog 28) (_:b.sz≤1048576),Ctr Tryz.prog f [avI b] [] (.tu [avO (getME b),.c (.v (.bool (getMB b)))]) []){b:E}(hb:b.Ty Tryz.prog 28)(w:World)(ib:b.In w)(zb:b.sz≤1048576) :
 Calls Tryz.prog f #[b.val] w fun r w'=>∃x:E,r=.returned (.tuple #[x.val,.bool (getMoD1 b.d)])∧x.d=getMoD b.d∧x.Ty Tryz.prog 33∧x.Ho w' w.heap.size w'.heap.size∧x.fp.Nodup∧Below w.heap.size w w':=by
 obtain⟨q,hq,hl⟩:=liftS_to (R:=fun q:E=>(q.Ty Tryz.prog 28∧q.d=b.d)) (f:=fun q=>((getME q).d,(getMB q))) (z:=(b.d,false)) (a:=b) ⟨hb,rfl⟩
 obtain⟨tb,db⟩:=hq
 try dsimp only at hl tb db
 have hc:=hf tb (by rw [←E.sz_d,db,E.sz_d];exact zb)
 rw [avI_of_d tb hb db] at hc
 have hP:getMoP b.d=((getME q).d,(getMB q)):=hl
 have hr0:getMoD b.d=(getME q).d:=by unfold getMoD;rw [hP]
 have hr1:getMoD1 b.d=(getMB q):=by unfold getMoD1;rw [hP]
 rw [hr0,hr1]
 exact ctr_own2 (t:=33) (D:=getME q) rfl hc (zt14 tb (by rw [←E.sz_d,db,E.sz_d];exact zb)) (us:=[b.val]) (VRL_cons (avI_VR hb ib) VRL_nil)
theorem zv11 {b:E}(zb:b.sz≤1048576) :(getMoD b).sz≤1073741824:=by
 unfold getMoD getMoP
 refine zq20 (fun r:E×Bool=>(r.1).sz≤1073741824) (fun q hq=>?_) (by show E.sz b≤_;omega)
 show E.sz (E.d _)≤_
 rw [E.sz_d]
 obtain⟨tb,db⟩:=hq
 exact getME_sz tb (by rw [←E.sz_d,db];exact zb)
theorem zw11 {b:E}(hb:b.Ty Tryz.prog 28)(w:World)(ib:b.In w)(zb:b.sz≤1048576) :
 Calls Tryz.prog 22 #[b.val] w fun r w'=>∃x:E,r=.returned (.tuple #[x.val,.bool (getMoD1 b.d)])∧Hid (x.d=getMoD b.d)∧x.Ty Tryz.prog 33∧x.Re w' w.heap.size w'.heap.size∧Below w.heap.size w w' :=
 (zt16 (f:=22) (fun hb zb=>by have hcc:=zu11 hb zb;obtain⟨bA,bc,bl,rfl,-,-⟩:=hb.lst_ Tryz.underlying28 (k:=1) (by kernel_rfl);exact hcc) hb w ib zb).mono fun _ _ ⟨x,h1,h2,h3,h4,h5,h6⟩=>⟨x,h1,h2,h3,h4.re,h6⟩
theorem zp6 {b:E}(hb:b.Ty Tryz.prog 28)(w:World)(ib:b.In w)(zb:b.sz≤1048576) :
 Calls Tryz.prog 24 #[b.val] w fun r w'=>∃x:E,r=.returned (.tuple #[x.val,.bool (getMoD1 b.d)])∧Hid (x.d=getMoD b.d)∧x.Ty Tryz.prog 33∧x.Ho w' w.heap.size w'.heap.size∧x.fp.Nodup∧Below w.heap.size w w' :=
 (zt16 (f:=24) (fun hb zb=>by have hcc:=zt11 hb zb;obtain⟨bA,bc,bl,rfl,-,-⟩:=hb.lst_ Tryz.underlying28 (k:=1) (by kernel_rfl);exact hcc) hb w ib zb).mono fun _ _ ⟨x,h1,h2,h3,h4,h5,h6⟩=>⟨x,h1,h2,h3,h4,h5,h6⟩
end Go.Proofs.YtghljnfbbaklnaaGreat
