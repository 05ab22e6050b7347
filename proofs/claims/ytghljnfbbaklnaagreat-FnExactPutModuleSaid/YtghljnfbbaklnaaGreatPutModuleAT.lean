/- PutModule's result, as data with places. -/
import Derived.Test.YtghljnfbbaklnaaGreatPutModuleAS
namespace Go.Proofs.YtghljnfbbaklnaaGreat
open Go.RowKit
set_option maxRecDepth 100000
def putME (e:E):E:=.lst 1 5 none 0 (bI (pmE e))
theorem owL_bI:∀bs:List UInt8,owL (bI bs)=bytC bs
 | []=>rfl
 | b :: r=>by
  show [AC.v (.int .u8 b.toNat)]++owL (bI r)=AC.v (.int .u8 b.toNat) :: bytC r
  rw [owL_bI r];rfl
theorem szL_bI:∀bs:List UInt8,E.szL (bI bs)=0:=by
 intro bs
 induction bs with
 | nil=>rfl
 | cons b r ih=>show E.sz (.int .u8 _)+E.szL (bI r)=0;rw [ih];rfl
theorem bI_TyL:∀bs:List UInt8,E.TyL Tryz.prog (bI bs) 5
 | []=>by show E.TyL _ [] _;unfold E.TyL;trivial
 | b :: r=>by
  show E.TyL _ (E.int .u8 _ :: bI r) _
  unfold E.TyL
  refine⟨?_,bI_TyL r⟩
  unfold E.Ty
  have:=b.toNat_lt
  refine⟨Tryz.underlying5,?_⟩
  have h1:IntKind.u8.max=255:=by decide
  simp only [Lit.wf,Bool.and_eq_true,decide_eq_true_iff]
  have h2:IntKind.u8.min=0:=by decide
  rw [h1,h2]
  omega
theorem putME_Ty {e:E}(_:e.Ty Tryz.prog 33)(_:e.sz≤1048576):(putME e).Ty Tryz.prog 28:=by
 unfold putME
 rw [E.Ty]
 refine⟨Tryz.underlying28,⟨by kernel_rfl,by decide⟩,bI_enc,bI_TyL _⟩
theorem pmE_len {e:E}(he:e.Ty Tryz.prog 33):(pmE e).length≤1000000:=by
 unfold pmE
 split
 ·rename_i hok
  obtain⟨x0A,x0c,l0,x1A,x1c,l1,x2,x3,x4A,x4c,l4,rfl,-,-,-,-,⟨a4,-⟩,-⟩:=zg3 he
  obtain⟨n0,n1,b2,b3,b4,v0,v1,v4⟩:=zj10 hok
  show (pmL l0 l1 x2 x3 l4).length≤_
  have q97:=zr3 97
  have qn0:=zr3 (l0.length:Int)
  have qn1:=zr3 (l1.length:Int)
  have qx2:=zr3 x2
  have qx3:=zr3 x3
  have qn4:=zr3 (l4.length:Int)
  have h0:=zg15 (f:=putVE) (B:=212) l0 fun x hx=>zf15 (v0 x hx)
  have h1:=zg15 (f:=putTE) (B:=206) l1 fun x hx=>(zs9 (v1 x hx)).1
  have h4:=zg15 (f:=putFE) (B:=36012) l4 fun x hx=>by
   obtain⟨k,hk⟩:=List.mem_iff_getElem?.1 hx
   exact zr12 (a4 x hx) (zf8 v4 hk)
  unfold pmL
  simp only [List.length_append]
  omega
 ·simp
theorem putME_sz {e:E}(he:e.Ty Tryz.prog 33)(_:e.sz≤1048576):(putME e).sz≤1073741824:=by
 have h:=pmE_len he
 unfold putME
 simp only [E.sz,szL_bI,bI_len]
 omega
theorem zi17 {f:FuncId}{ins:List AV}{e:E}(h:Ctr Tryz.prog f ins [] (.c (.ow 5 (pmE e).length 1 (bytC (pmE e)))) []):Ctr Tryz.prog f ins [] (avO (putME e)) []:=by
 show Ctr Tryz.prog f ins [] (.c (.ow 5 (bI (pmE e)).length 1 (owL (bI (pmE e))))) []
 rw [owL_bI,bI_len]
 exact h
noncomputable def putMP (m:E):E:=liftS (fun q:E=>(q.Ty Tryz.prog 33∧q.d=m)) (fun q=>(putME q).d) m
noncomputable def putMD (m:E):E:=(putMP m)
theorem zg20 {f:FuncId}(hf:∀{m:E} (_:m.Ty Tryz.prog 33) (_:m.sz≤1048576),Ctr Tryz.prog f [avI m] [] (avO (putME m)) []){m:E}(hm:m.Ty Tryz.prog 33)(w:World)(im:m.In w)(zm:m.sz≤1048576) :
 Calls Tryz.prog f #[m.val] w fun r w'=>∃x:E,r=.returned (x.val)∧x.d=putMD m.d∧x.Ty Tryz.prog 28∧x.Ho w' w.heap.size w'.heap.size∧x.fp.Nodup∧Below w.heap.size w w':=by
 obtain⟨q,hq,hl⟩:=liftS_to (R:=fun q:E=>(q.Ty Tryz.prog 33∧q.d=m.d)) (f:=fun q=>(putME q).d) (z:=m.d) (a:=m) ⟨hm,rfl⟩
 obtain⟨tm,dm⟩:=hq
 try dsimp only at hl tm dm
 have hc:=hf tm (by rw [←E.sz_d,dm,E.sz_d];exact zm)
 rw [avI_of_d tm hm dm] at hc
 have hP:putMP m.d=(putME q).d:=hl
 have hr0:putMD m.d=(putME q).d:=by unfold putMD;rw [hP]
 rw [hr0]
 exact ctr_own (t:=28) (D:=putME q) hc (putME_Ty tm (by rw [←E.sz_d,dm,E.sz_d];exact zm)) (us:=[m.val]) (VRL_cons (avI_VR hm im) VRL_nil)
theorem zh15 {m:E}(zm:m.sz≤1048576) :(putMD m).sz≤1073741824:=by
 unfold putMD putMP
 refine zs20 (fun r:E=>(r).sz≤1073741824) (fun q hq=>?_) (by show E.sz m≤_;omega)
 show E.sz (E.d _)≤_
 rw [E.sz_d]
 obtain⟨tm,dm⟩:=hq
 exact putME_sz tm (by rw [←E.sz_d,dm];exact zm)
theorem zw12 {m:E}(hm:m.Ty Tryz.prog 33)(w:World)(im:m.In w)(zm:m.sz≤1048576) :
 Calls Tryz.prog 7 #[m.val] w fun r w'=>∃x:E,r=.returned (x.val)∧Hid (x.d=putMD m.d)∧x.Ty Tryz.prog 28∧x.Re w' w.heap.size w'.heap.size∧Below w.heap.size w w' :=
 (zg20 (f:=7) (fun hm zm=>by have hcc:=zi17 (zv12 hm zm);obtain⟨mF,rfl,-⟩:=hm.agg_ Tryz.underlying33;exact hcc) hm w im zm).mono fun _ _ ⟨x,h1,h2,h3,h4,h5,h6⟩=>⟨x,h1,h2,h3,h4.re,h6⟩
theorem zx7 {m:E}(hm:m.Ty Tryz.prog 33)(w:World)(im:m.In w)(zm:m.sz≤1048576) :
 Calls Tryz.prog 9 #[m.val] w fun r w'=>∃x:E,r=.returned (x.val)∧Hid (x.d=putMD m.d)∧x.Ty Tryz.prog 28∧x.Ho w' w.heap.size w'.heap.size∧x.fp.Nodup∧Below w.heap.size w w' :=
 (zg20 (f:=9) (fun hm zm=>by have hcc:=zi17 (zt12 hm zm);obtain⟨mF,rfl,-⟩:=hm.agg_ Tryz.underlying33;exact hcc) hm w im zm).mono fun _ _ ⟨x,h1,h2,h3,h4,h5,h6⟩=>⟨x,h1,h2,h3,h4,h5,h6⟩
end Go.Proofs.YtghljnfbbaklnaaGreat
