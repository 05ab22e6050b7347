/- T -/
import Derived.Test.YtmnneflenebgmaaGreatCnOO
set_option maxHeartbeats 0
set_option maxRecDepth 100000
namespace Go.Proofs.YtmnneflenebgmaaGreat
open Go.RowKit Go.Proofs.Tryz
theorem szStringS_all' (A:Option Addr)(c:Nat)(l:List E)(ht:∀y∈l,y.Ty prog 9):Sz 177 (.lst 1 9 A c l):=by
 intro left w hr h0 h1
 have hs:=hr.sl
 have hlen:=hs.len_le
 have HSZ:Hid ((E.lst 1 9 A c l).sz=l.length+E.szL l):=rfl
 change Calls _ _ #[.slice A l.length c,.int .i64 left] w _
 by_cases hneg:left-l.length<0
 ·go_enter func177,Tryz.ntmps177
  go_wp2
  go_ret
  exact⟨-1,rfl,.inl omq,omq,by exact by0⟩
 go_enter func177,Tryz.ntmps177
 go_wp2
 go_loopw [1,5] (fun v i wr=>∃(k:Nat) (cur:Int),k≤l.length∧i=.int .i64 k∧v=.int .i64 cur∧0≤cur∧cur≤left∧Hid (cur+E.szL (l.take k)+l.length=left)∧Below w.heap.size w wr) (fun _ i _=>l.length-(intOf i).toNat)
 case atStart=>exact⟨0,_,Nat.zero_le _,rfl,rfl,omq,omq,(by show _=_;simp [E.szL]),Below.refl _ _⟩
 case round =>
  obtain⟨k,cur,hk,rfl,rfl,hc0,hc1,HQ,hb⟩:=hrel
  have hzb:=hb.size
  by_cases hlt:k<l.length
  ·have hs':=hs.below hb (Nat.le_refl _)
   have HT:=Lib.hid (E.szL_take l k hlt)
   obtain⟨b,o,rfl,_,hc⟩:=hs'.at_ hlt
   obtain⟨s,ex,gs⟩:=(ht _ (List.getElem_mem hlt)).str_ underlying9
   rw [ex] at hc
   have c0:=hc 0 _ rfl
   rw [Nat.add_zero,Nat.mul_one] at c0
   clear hc
   have HEX:=Lib.hid ex
   clear ex
   by_cases hn:cur-s.size<0
   ·go_wp2
    go_ret
    exact⟨-1,rfl,.inl omq,omq,by exact by0⟩
   ·go_wp2
    go_roundw
    case rel=>exact⟨k+1,_,omq,by go_num,rfl,omq,omq,(by show _=_;have e1:=HQ.out;have e2:=HT.out;rw [HEX.out] at e2;simp only [E.sz] at e2;omega),by exact by0⟩
    case measure=>simp [intOf];omega
  ·have hk':k=l.length:=by omega
   subst hk'
   go_wp2
   go_ret
   refine⟨_,rfl,.inr ?_,omq,hb⟩
   show _=_
   have e1:=HQ.out
   rw [List.take_length] at e1
   rw [HSZ.out]
   push_cast
   omega
theorem mI {e:E}(ht:e.Ty prog 31):Sz 177 e:=by
 obtain⟨A,c,l,rfl,h1,_⟩:=ht.lst_ underlying31 (k:=1) (by kernel_rfl)
 exact szStringS_all' A c l h1
theorem n3:(prog.info? 9).map (fun i=>(i.zero,i.size,i.bytes))=some (some (.string ByteArray.empty),1,16):=by kernel_rfl
theorem mJ {e:E}(ht:e.Ty prog 31):To 180 31 e:=by
 obtain⟨A,c,l,rfl,h1,h2⟩:=ht.lst_ underlying31 (k:=1) (by kernel_rfl)
 intro w hr hsz
 have hs:=hr.sl
 have hn:l.length≤1048576:=by have e:(E.lst 1 9 A c l).sz=l.length+E.szL l:=rfl;omega
 have hmk:=sW underlying31 n3 l.length omq omq
 have hF:=Fill.new w 9 #[.string ByteArray.empty] l.length (E.encL l)
 have hxs:=E.encL_len h2
 rw [Nat.mul_one] at hxs
 have HX:=Lib.hid hxs
 have H1:=Lib.hid h1
 have H2:=Lib.hid h2
 clear hxs h1 h2
 change Calls _ _ #[.slice A l.length c] w _
 go_enter func180,Tryz.ntmps180
 go_wp2
 go_loopw [4] (fun i wr=>∃(k:Nat),k≤l.length∧i=.int .i64 k∧Fill wr w.heap.size 9 l.length k (E.encL l)∧Below w.heap.size w wr) (fun i _=>l.length-(intOf i).toNat)
 case atStart=>exact⟨0,Nat.zero_le _,rfl,hF,by exact by0⟩
 case round =>
  obtain⟨k,hk,rfl,hf,hb⟩:=hrel
  by_cases hlt:k<l.length
  ·have hs':=hs.below hb (Nat.le_refl _)
   obtain⟨b,o,rfl,_,hcell⟩:=hs'.at1 hlt
   have hx:=E.encL_at H2.out k hlt 0 omq
   obtain⟨n,ex,gn⟩:=(H1.out _ (List.getElem_mem hlt)).str_ underlying9
   have hcell:=hcell _ (by rw [ex];rfl)
   obtain⟨u,hc2⟩:=hf.cell hlt
   have hf2:=hf.frozen k
   rw [Nat.mul_one,Nat.add_zero,ex] at hx
   have R:=(hf.set hlt hx)
   clear hx hf ex
   go_wp2
   go_roundw
   case rel=>exact⟨k+1,omq,by go_num,R,hb.setCell (Nat.le_refl _) _⟩
   case measure=>simp [intOf];omega
  ·have hk':k=l.length:=by omega
   subst hk'
   go_wp2
   go_ret
   have hfl:∀e∈l,e.fp=[]:=fun e he=>by
    obtain⟨n,rfl,_⟩:=(H1.out e he).str_ underlying9
    rfl
   refine⟨.lst 1 9 (some ⟨w.heap.size,0,none⟩) l.length l,rfl,jZ.2 rfl,E.Ty.mk_lst underlying31 (by kernel_rfl) H1.out H2.out,E.Ho.mk (Ow.of_owns (hf.owns (Nat.le_refl _) (Nat.mul_one _).symm HX.out (by unfold maxLen;omega)) (Nat.le_refl _)) H2.out (fun e he=>?_),?_,hb⟩
   ·obtain⟨n,rfl,_⟩:=(H1.out e he).str_ underlying9
    trivial
   ·simp only [E.fp,E.fpL_nil hfl];simp
theorem eqStringS_all' (A B:Option Addr)(c c':Nat)(l m:List E)(h1:∀y∈l,y.Ty prog 9)(h2:∀y∈m,y.Ty prog 9):Eq 24 (.lst 1 9 A c l) (.lst 1 9 B c' m):=by
 intro hd w hr hr'
 rw [jZ] at hd
 have hs:=hr.sl
 have hs':=hr'.sl
 have hml:=rx hd
 have HD:=Lib.hid hd
 clear hd
 have hlen:=hs.len_le
 change Calls _ _ #[.slice A l.length c,.slice B m.length c'] w _
 obtain⟨N,HN⟩:∃N,Hid (m.length=N):=⟨_,rfl⟩
 have hN:N=l.length:=by have:=HN.out;omega
 subst hN
 rw [HN.out]
 clear hml
 go_enter func24,Tryz.ntmps24
 go_wp2
 go_loopw [5] (fun i wr=>∃(k:Nat),k≤l.length∧i=.int .i64 k∧Below w.heap.size w wr) (fun i _=>l.length-(intOf i).toNat)
 case atStart=>exact⟨0,Nat.zero_le _,rfl,Below.refl _ _⟩
 case round =>
  obtain⟨k,hk,rfl,hb⟩:=hrel
  by_cases hlt:k<l.length
  ·have hltm:k<m.length:=by have:=HN.out;omega
   have hsb:=hs.below hb (Nat.le_refl _)
   have hsb':=hs'.below hb (Nat.le_refl _)
   have hdk:=d_at HD.out hlt hltm
   obtain⟨b,o,rfl,_,hc⟩:=hsb.at_ hlt
   obtain⟨b',o',rfl,_,hd⟩:=hsb'.at_ hltm
   obtain⟨a,ea,ga⟩:=(h1 _ (List.getElem_mem hlt)).str_ underlying9
   obtain⟨a2,eb,gb⟩:=(h2 _ (List.getElem_mem hltm)).str_ underlying9
   rw [ea,eb] at hdk
   simp only [E.d,E.int.injEq,E.str.injEq,true_and] at hdk
   subst hdk
   rw [ea] at hc
   rw [eb] at hd
   clear ea eb
   have c0:=hc 0 _ rfl
   have d0:=hd 0 _ rfl
   rw [Nat.add_zero,Nat.mul_one] at c0 d0
   clear hc hd
   go_wp2
   go_quiet (fail)
   go_wp2
   go_roundw
   case rel=>exact⟨k+1,omq,by go_num,by exact by0⟩
   case measure=>simp [intOf];omega
  ·go_wp2
   go_ret
   exact⟨rfl,hb⟩
theorem mK {e e':E}(ht:e.Ty prog 31)(ht':e'.Ty prog 31):Eq 24 e e':=by
 obtain⟨A,c,l,rfl,h1,_⟩:=ht.lst_ underlying31 (k:=1) (by kernel_rfl)
 obtain⟨B,c',m,rfl,h2,_⟩:=ht'.lst_ underlying31 (k:=1) (by kernel_rfl)
 exact eqStringS_all' A B c c' l m h1 h2
theorem markStringS_all' (A:Option Addr)(c:Nat)(l:List E)(h1:∀y∈l,y.Ty prog 9)(h2:∀y∈l,y.enc.length=1):Mar 27 (.lst 1 9 A c l):=by
 intro lo hi k0 w ho hnd hhi hk0 hk1
 have HCN:Hid ((E.lst 1 9 A c l).cnt=E.cntcL l):=rfl
 rw [HCN.out] at hk1
 have HND:=Lib.hid hnd
 clear hnd
 have hlen:=ho.re.sl.len_le
 have how0:=ho
 rw [←fj l k0] at how0
 clear ho
 change Calls _ _ #[.slice A l.length c,.int .i64 k0] w _
 rw [HCN.out]
 change Calls _ _ _ w fun r w'=>r=.returned (.int .i64 (k0+(E.cntcL l:Nat)))∧(E.lst 1 9 A c (E.mkcL l k0)).Ho w' lo hi∧Fr (E.lst 1 9 A c l).fp w w'
 go_enter func27,Tryz.ntmps27
 go_wp2
 go_loopw [1,5] (fun v i wr=>∃(k:Nat) (q:Int),k≤l.length∧i=.int .i64 k∧v=.int .i64 q∧Hid (q=k0+(E.cntcL (l.take k):Nat))∧Fr (E.lst 1 9 A c l).fp w wr∧Hid ((E.lst 1 9 A c (ec l k0 k)).Ho wr lo hi)) (fun _ i _=>l.length-(intOf i).toNat)
 case atStart=>exact⟨0,k0,Nat.zero_le _,rfl,rfl,(by show _=_;simp [E.cntcL]),Fr.refl _ _,how0⟩
 case round =>
  obtain⟨k,q,hk,rfl,rfl,HQ,hF0,HOW⟩:=hrel
  have hzk:=hF0.size
  by_cases hlt:k<l.length
  ·have HT:=Lib.hid (E.cntcL_take l k hlt)
   have hq0:0≤q:=by have:=HQ.out;omega
   have hml:k<(ec l k0 k).length:=by rw [fI];exact hlt
   have how:=HOW.out
   obtain⟨g,rfl,hg1,hg2,hg3⟩:=how.head omq
   obtain⟨y0,ex,gy0⟩:=(h1 _ (List.getElem_mem hlt)).str_ underlying9
   have HCX:Hid ((E.str y0).cntc=1):=rfl
   have hq1:q+((1:Nat):Int)≤1152921504606846976:=by have e1:=HQ.out;have e2:=HT.out;have e3:=E.cntcL_le l (k+1);rw [ex,HCX.out] at e2;omega
   have e0:ec l k0 k=(ec l k0 k).set k (E.str y0):=by rw [←ex,←ew l k0 k hlt];exact (List.set_getElem_self _).symm
   have HN2:=Lib.hid (fun (z:E) (hz:z.fp=(E.str y0).fp)=>(show (E.lst 1 9 (some ⟨g,0,none⟩) c ((ec l k0 k).set k z)).fp.Nodup by have hh:=HND.out;have h3:E.fpL ((ec l k0 k).set k z)=E.fpL l:=(E.fpL_set hml (by rw [hz,←ex,ew l k0 k hlt])).trans (iN l k0 k);simp only [E.fp] at hh ⊢;rw [h3];exact hh))
   have HSB:=Lib.hid (fun (b:Nat) (hb:b∈(E.str y0).fp)=>(show b∈(E.lst 1 9 (some ⟨g,0,none⟩) c l).fp by simp only [E.fp];exact List.mem_append_right _ (E.mem_fpL.2 ⟨l[k],List.getElem_mem hlt,by rw [ex];exact hb⟩)))
   have hgm:g∈(E.lst 1 9 (some ⟨g,0,none⟩) c l).fp:=by simp [E.fp]
   have HGM:=Lib.hid hgm
   clear hgm
   rw [e0] at how
   clear e0
   obtain⟨ms,HMS⟩:∃ms,Hid (ec l k0 k=ms):=⟨_,rfl⟩
   rw [HMS.out] at how hml HN2
   have HEX:=Lib.hid ex
   clear ex
   have HML:=Lib.hid hml
   clear hml
   have H0:=Lib.hid how
   clear how
   have c0_0:wr.cell? ⟨g,k,none⟩=some (.string y0):=by have h:=H0.out.cellx (j:=0) (u:=.string y0) (by simpa using HML.out) (a7 HML.out _) rfl;simpa only [Nat.mul_one,Nat.add_zero] using h
   have fz0:=H0.out.frzx
   go_wp2_with fail
   clear c0_0 fz0
   go_at_call 71
   refine (db _ _ omq).mono ?_;rintro e w1 ⟨rfl,hb1⟩
   have hz1:=hb1.size;(try simp only [World.size_setCell] at hz1)
   have H1:=Lib.hid (H0.out.below hb1 (by first|omega|(simp;omega)))
   clear H0
   have hF1:Fr (E.lst 1 9 (some ⟨g,0,none⟩) c l).fp w w1:=hF0.trans (Fr.of_below hb1)
   have c1_0:w1.cell? ⟨g,k,none⟩=some (.string y0):=by have h:=H1.out.cellx (j:=0) (u:=.string y0) (by simpa using HML.out) (a7 HML.out _) rfl;simpa only [Nat.mul_one,Nat.add_zero] using h
   have fz1:=H1.out.frzx
   go_wp2
   go_roundw
   case rel =>
    have H2:Hid ((E.lst 1 9 (some ⟨g,0,none⟩) c (ms.set k (E.str (aM (q))))).Ho (w1.setCell ⟨g,k,none⟩ (.string (aM (q)))) lo hi):=(by have h:=H1.out.store (HN2.out _ (by first|rfl|(simp only [E.fp,E.fpL,E.mkcL_fp,E.mk0L_fp,E.mk0_fp,E.mkc_fp];done)|fail)) HML.out (E.str (aM (q))) 0 (.string (aM (q))) omq rfl (fun _ h=>h);simp only [Nat.mul_one,Nat.add_zero] at h;exact h)
    have FF:∀t0:Int,(q)=t0→(E.str (aM (q)))=(E.str (aM t0)):=by
     intro t0 ht0
     subst ht0
     rfl
    have EX:(E.str (aM (q)))=(E.str y0).mkc q:=FF _ (by first|rfl|omega|(show _=_;simp only [E.cnt,E.cntL,E.cntc,E.cntcL,reduceCtorEq,if_false,if_true,ite_false];omega))
    exact⟨k+1,_,omq,by go_num,rfl,(by show _=_;have e1:=HQ.out;have e2:=HT.out;rw [HEX.out,HCX.out] at e2;omega),(hF1.set HGM.out (.string (aM (q)))),(by show E.Ho _ _ _ _;rw [←fm l k0 k hlt,HEX.out,←HQ.out,←EX,HMS.out];exact H2.out)⟩
   case measure=>simp [intOf];omega
  ·have hk':k=l.length:=by omega
   subst hk'
   go_wp2
   go_ret
   have e1:=HQ.out
   rw [List.take_length] at e1
   have h:=HOW.out
   rw [gC] at h
   exact⟨ri e1,h,hF0⟩
theorem kC {e:E}(ht:e.Ty prog 31):Mar 27 e:=by
 obtain⟨A,c,l,rfl,h1,h2⟩:=ht.lst_ underlying31 (k:=1) (by kernel_rfl)
 exact markStringS_all' A c l h1 h2
theorem aR {e:E}(h:e.Ty prog 39):∃(x0:Int) (x1:ByteArray) (x2A:Option Addr) (x2c:Nat) (x2l:List E),e=(E.agg [.int .i64 x0,.str x1,.lst 3 39 x2A x2c x2l])∧((Lit.int .i64 x0).wf=true)∧(x1.size≤9223372036854775807)∧((∀y∈x2l,y.Ty prog 39)∧(∀y∈x2l,y.enc.length=3))∧True:=by
 obtain⟨fs,rfl,q0⟩:=h.agg_ underlying39
 change E.TyF _ _ [3,9,37] at q0
 obtain⟨e0,r0,rfl,h0,q1⟩:=q0.cons_
 obtain⟨e1,r1,rfl,h1,q2⟩:=q1.cons_
 obtain⟨e2,r2,rfl,h2,q3⟩:=q2.cons_
 obtain rfl:=q3.nil_
 obtain⟨x0,rfl,gx0⟩:=h0.int_ underlying3
 obtain⟨x1,rfl,gx1⟩:=h1.str_ underlying9
 obtain⟨x2A,x2c,x2l,rfl,gx2,gx2'⟩:=h2.lst_ underlying37 (k:=3) (by kernel_rfl)
 exact⟨x0,x1,x2A,x2c,x2l,rfl,gx0,gx1,⟨gx2,gx2'⟩,trivial⟩
theorem u9 {l:List E}(hl:∀e∈l,e.Ty prog 39)(hk:∀e∈l,e.enc.length=3)(hlen:l.length≤1073741824){b:List AC}(hb:bf b=true)(p:E→Bool)(f:FuncId)(hc:∀x∈l,Ctr prog f (.ag (acE x) :: [.c (.pt 0 0)]) [b] (.c (.v (.bool (p x)))) [b]):Ctr prog 203 [.c (.ro l.length 3 (acL l)),.c (.fn f [.pt 0 0])] [b] (.c (.v (.int .i64 (gf p l)))) [b]:=by
 refine av func203 rfl rfl ?_
 repeat (first|refine ae ?_|refine ah ?_|refine ai ?_|refine au ?_|refine am ?_|refine aa fun C=>?_|refine ar (by kernel_rfl) (by kernel_rfl) fun C=>?_|refine ab ?_|refine bD ?_|refine dP ?_|refine dM ?_|refine dQ ?_|refine x_mv ?_|refine dB ?_|refine x_sk0 ?_|refine dR ?_|refine ce ?_|refine x_sto ?_|refine cf ?_|refine x_app0 ?_|refine x_ld ?_)
 refine aP (fun k:Nat=>⟨dA [(0,.c (.ro l.length 3 (acL l))),(1,.c (.fn f [.pt 0 0])),(7,.c (.v (.int .i64 l.length))),(8,.c (.v (.int .i64 k)))],dq [(0,0,⟨0,0,0,true,b⟩)],1,[0],19⟩)
  (fun N k=>k+N=l.length∧∀j y,j<k→l[j]? = some y→p y=false) l.length 0 ⟨omq,omq⟩ ?_ ?_
 ·refine aC _ _ rfl rfl ?_ ?_;(repeat' (first|exact TmOk.nil|exact RwOk.nil|refine TmOk.cons ?_ ?_|refine RwOk.cons ?_ ?_|rfl|(refine rnV_id' rfl ?_;exact byc)|(refine bv ?_;first|rfl|omega|(rw [aW omq omq];omega))|(refine aK rfl ?_;exact byc)|exact cb rfl rfl|(refine rw_mid (by rfl) (by rfl) ?_ ?_<;>exact byc)|(refine rw_rn' rfl rfl ?_;simp;done)));refine aK rfl hb
 rintro N k ⟨hN,hno⟩
 repeat (first|refine ae ?_|refine ah ?_|refine ai ?_|refine au ?_|refine am ?_|refine aa fun C=>?_|refine ar (by kernel_rfl) (by kernel_rfl) fun C=>?_|refine ab ?_|refine bD ?_|refine dP ?_|refine dM ?_|refine dQ ?_|refine x_mv ?_|refine dB ?_|refine x_sk0 ?_|refine dR ?_|refine ce ?_|refine x_sto ?_|refine cf ?_|refine x_app0 ?_|refine x_ld ?_)
 refine cy (by rfl) (fun h1=>?_) fun h1=>?_
 ·have hk':k<l.length:=by simpa using h1
  obtain⟨x,hx⟩:∃x,l[k]? = some x:=⟨_,List.getElem?_eq_getElem hk'⟩
  have hxt:=hl x (List.mem_of_getElem? hx)
  have hcc:=hc x (List.mem_of_getElem? hx)
  obtain⟨y0,y1,y2A,y2c,y2l,rfl,gy0,gy1,gy2,-⟩:=aR hxt
  repeat (first|refine ae ?_|refine ah ?_|refine ai ?_|refine au ?_|refine am ?_|refine aa fun C=>?_|refine ar (by kernel_rfl) (by kernel_rfl) fun C=>?_|refine ab ?_|refine bD ?_|refine dP ?_|refine dM ?_|refine dQ ?_|refine x_mv ?_|refine dB ?_|refine x_sk0 ?_|refine dR ?_|refine ce ?_|refine x_sto ?_|refine cf ?_|refine x_app0 ?_|refine x_ld ?_)
  refine xi 0 hcc ?_ (hl:=cW (by rfl) hb)
  repeat (first|refine ae ?_|refine ah ?_|refine ai ?_|refine au ?_|refine am ?_|refine aa fun C=>?_|refine ar (by kernel_rfl) (by kernel_rfl) fun C=>?_|refine ab ?_|refine bD ?_|refine dP ?_|refine dM ?_|refine dQ ?_|refine x_mv ?_|refine dB ?_|refine x_sk0 ?_|refine dR ?_|refine ce ?_|refine x_sto ?_|refine cf ?_|refine x_app0 ?_|refine x_ld ?_)
  refine cy (by rfl) (fun h2=>?_) fun h2=>?_
  ·repeat (first|refine ae ?_|refine ah ?_|refine ai ?_|refine au ?_|refine am ?_|refine aa fun C=>?_|refine ar (by kernel_rfl) (by kernel_rfl) fun C=>?_|refine ab ?_|refine bD ?_|refine dP ?_|refine dM ?_|refine dQ ?_|refine x_mv ?_|refine dB ?_|refine x_sk0 ?_|refine dR ?_|refine ce ?_|refine x_sto ?_|refine cf ?_|refine x_app0 ?_|refine x_ld ?_)
   refine eo (x:=.c (.v (.int .i64 k))) (rw:=⟨0,0,0,true,b⟩) rfl rfl rfl hb rfl ⟨?_,rfl⟩
   rw [fg hno hx h2]
  ·repeat (first|refine ae ?_|refine ah ?_|refine ai ?_|refine au ?_|refine am ?_|refine aa fun C=>?_|refine ar (by kernel_rfl) (by kernel_rfl) fun C=>?_|refine ab ?_|refine bD ?_|refine dP ?_|refine dM ?_|refine dQ ?_|refine x_mv ?_|refine dB ?_|refine x_sk0 ?_|refine dR ?_|refine ce ?_|refine x_sto ?_|refine cf ?_|refine x_app0 ?_|refine x_ld ?_)
   refine⟨N-1,k+1,omq,⟨omq,fun j z hj hz=>?_⟩,?_⟩
   ·by_cases e:j=k
    ·rw [e,hx] at hz;injection hz with hz;subst hz;exact h2
    ·exact hno j z omq hz
   ·refine aC _ _ rfl rfl ?_ ?_;(repeat' (first|exact TmOk.nil|exact RwOk.nil|refine TmOk.cons ?_ ?_|refine RwOk.cons ?_ ?_|rfl|(refine rnV_id' rfl ?_;exact byc)|(refine bv ?_;first|rfl|omega|(rw [aW omq omq];omega))|(refine aK rfl ?_;exact byc)|exact cb rfl rfl|(refine rw_mid (by rfl) (by rfl) ?_ ?_<;>exact byc)|(refine rw_rn' rfl rfl ?_;simp;done)));refine aK rfl hb
 ·have hk':¬k<l.length:=by simpa using h1
  repeat (first|refine ae ?_|refine ah ?_|refine ai ?_|refine au ?_|refine am ?_|refine aa fun C=>?_|refine ar (by kernel_rfl) (by kernel_rfl) fun C=>?_|refine ab ?_|refine bD ?_|refine dP ?_|refine dM ?_|refine dQ ?_|refine x_mv ?_|refine dB ?_|refine x_sk0 ?_|refine dR ?_|refine ce ?_|refine x_sto ?_|refine cf ?_|refine x_app0 ?_|refine x_ld ?_)
  refine eo (x:=.c (.v (.int .i64 (-1)))) (rw:=⟨0,0,0,true,b⟩) rfl rfl rfl hb rfl ⟨?_,rfl⟩
  rw [dt fun j y hj hy=>hno j y omq hy]
theorem va {l:List E}(hl:∀e∈l,e.Ty prog 39)(hk:∀e∈l,e.enc.length=3)(hlen:l.length≤1073741824){b:List AC}(hb:bf b=true)(p:E→Bool)(f:FuncId)(hc:∀x∈l,Ctr prog f (.ag (acE x) :: [.c (.pt 0 0)]) [b] (.c (.v (.bool (p x)))) [b]):Ctr prog 163 [.c (.ro l.length 3 (acL l)),.c (.fn f [.pt 0 0])] [b] (.c (.v (.bool (l.any p)))) [b]:=by
 refine av func163 rfl rfl ?_
 have hcc:=u9 hl hk hlen hb p f hc
 repeat (first|refine ae ?_|refine ah ?_|refine ai ?_|refine au ?_|refine am ?_|refine aa fun C=>?_|refine ar (by kernel_rfl) (by kernel_rfl) fun C=>?_|refine ab ?_|refine bD ?_|refine dP ?_|refine dM ?_|refine dQ ?_|refine x_mv ?_|refine dB ?_|refine x_sk0 ?_|refine dR ?_|refine ce ?_|refine x_sto ?_|refine cf ?_|refine x_app0 ?_|refine x_ld ?_)
 refine xi 0 hcc ?_ (hl:=cW (by rfl) hb)
 repeat (first|refine ae ?_|refine ah ?_|refine ai ?_|refine au ?_|refine am ?_|refine aa fun C=>?_|refine ar (by kernel_rfl) (by kernel_rfl) fun C=>?_|refine ab ?_|refine bD ?_|refine dP ?_|refine dM ?_|refine dQ ?_|refine x_mv ?_|refine dB ?_|refine x_sk0 ?_|refine dR ?_|refine ce ?_|refine x_sto ?_|refine cf ?_|refine x_app0 ?_|refine x_ld ?_)
 refine eo (x:=.c (.v (.bool (decide (gf p l ≥ 0))))) (rw:=⟨0,0,0,true,b⟩) rfl rfl rfl hb rfl ⟨?_,rfl⟩
 rw [fa]
theorem zu3:∀c:Fin 256,decide (0≤Lib.indexByte [32,95,45,44,58] (UInt8.ofNat c.1))=(c.1==32||c.1==95||c.1==45||c.1==44||c.1==58):=by decide
theorem kD {c:Nat}(hc:c<256):Ctr prog 161 [.c (.v (.int .u8 (c:Int)))] [] (.c (.v (.bool (lm c)))) []:=by
 have h1:=kB ⟨#[32,95,45,44,58]⟩ hc
 have h2:=nQ c
 have h3:decide (0≤Lib.indexByte (ByteArray.mk #[32,95,45,44,58]).data.toList (UInt8.ofNat c))=(c==32||c==95||c==45||c==44||c==58):=zu3 ⟨c,hc⟩
 refine av func161 rfl rfl ?_
 repeat' (first|refine ae ?_|refine aa fun C=>?_|refine ab ?_|(refine xg ?_ ?_<;>intro hG<;>(try cases hG))|refine bD ?_|refine dB ?_|refine il h1 ?_|refine il h2 ?_)
 all_goals
  (first|refine am ?_|skip);refine bi rfl aN ⟨?_,rfl⟩;refine congrArg (fun s=>AV.c (AC.v (Value.bool s))) ?_
  clear h1 h2
  have h3':=congrArg (·= true) h3
  simp only [decide_eq_true_iff,eq_iff_iff] at h3'
  clear h3
  unfold lm
  simp only [xp,ge_iff_le,Bool.or_eq_true,Bool.and_eq_true,decide_eq_true_iff,beq_iff_eq,Bool.and_eq_false_iff,decide_eq_false_iff_not] at *
  (rw [Bool.eq_iff_iff];(try simp only [Bool.and_eq_true,Bool.or_eq_true,Bool.not_eq_true',decide_eq_true_iff,decide_eq_false_iff_not,beq_iff_eq,Bool.and_eq_false_iff,Bool.or_eq_false_iff,bne_iff_ne,ne_eq,Bool.true_eq_false,Bool.false_eq_true,true_iff,false_iff,iff_true,iff_false] at *);first|omega|(simp at *;omega))
theorem n4 {s:ByteArray}(h:∀j,j<s.size→et s j=true):gu s=(decide (1≤s.size)&&decide (s.size≤10)):=by
 unfold gu
 rw [show (List.range s.size).all (et s)=true from List.all_eq_true.2 fun j hj=>h j (List.mem_range.1 hj),Bool.true_and]
theorem jQ {s:ByteArray}{j:Nat}(h:j<s.size)(h2:et s j=false):gu s=false:=by
 unfold gu
 rw [show (List.range s.size).all (et s)=false from List.all_eq_false.2 ⟨j,List.mem_range.2 h,by simp [h2]⟩,Bool.false_and]
theorem zo {s:ByteArray}(hs:s.size≤1073741824):Ctr prog 162 [.c (.v (.string s))] [] (.c (.v (.bool (gu s)))) []:=by
 refine av func162 rfl rfl ?_
 repeat' (first|refine ae ?_|refine ah ?_|refine aa fun C=>?_|refine ab ?_|refine bD ?_)
 refine aP (fun k:Nat=>⟨dA [(0,.c (.v (.string s))),(3,.c (.v (.int .i64 k)))],dq [],0,[],32⟩) (fun N k=>k+N=s.size∧∀j,j<k→et s j=true) s.size 0 ⟨omq,fun j hj=>by omega⟩ ?_ ?_
 ·(refine aC _ _ rfl rfl ?_ ?_<;>exact tdy0)
 rintro N k ⟨hN,hall⟩
 repeat' (first|refine ae ?_|refine aa fun C=>?_|refine ab ?_|refine bD ?_)
 refine cy (by rfl) (fun h1=>?_) fun h1=>?_
 ·have hk:k<s.size:=by simpa using h1
  have hl:=kD (fu s k)
  have fin:∀b,et s k=b→True:=fun _ _=>trivial
  cases k with
  | zero =>
   repeat' (first|refine ae ?_|refine ah ?_|refine ai ?_|refine aa fun C=>?_|refine ar (by kernel_rfl) (by kernel_rfl) fun C=>?_|refine ab ?_|(refine xg ?_ ?_<;>intro hG<;>(try cases hG))|refine x_six ?_|refine pf ?_|refine bD ?_|refine dB ?_|refine il hl ?_|(refine cy (by rfl) ?_ ?_<;>intro hC<;>(try cases hC)))
   all_goals first
    | (exfalso;revert hG;simp;done)
    | (refine am ?_
       refine bi (x:=.c (.v (.bool false))) rfl aN ⟨?_,rfl⟩
       rw [jQ hk (by unfold et;simp_all)])
    | (refine⟨N-1,1,omq,⟨omq,fun j hj=>?_⟩,?_⟩
       ·obtain rfl:j=0:=by omega
        unfold et;simp_all
       ·(refine aC _ _ rfl rfl ?_ ?_<;>(repeat' (first|exact TmOk.nil|exact RwOk.nil|refine TmOk.cons ?_ ?_|refine RwOk.cons ?_ ?_|rfl|(refine rnV_id' rfl ?_;exact byc)|(refine bv ?_;first|rfl|omega|(rw [aW omq omq];omega))|(refine aK rfl ?_;exact byc)|exact cb rfl rfl|(refine rw_mid (by rfl) (by rfl) ?_ ?_<;>exact byc)|(refine rw_rn' rfl rfl ?_;simp;done)))))
  | succ m =>
   have hm:((m+1:Nat):Int)-1=(m:Int):=by omega
   repeat' (first|refine ae ?_|refine ah ?_|refine ai ?_|refine aa fun C=>?_|refine ar (by kernel_rfl) (by kernel_rfl) fun C=>?_|refine ab ?_|(refine xg ?_ ?_<;>intro hG<;>(try cases hG))|refine x_six ?_|refine pf ?_|refine bD ?_|refine dB ?_|refine il hl ?_|(refine cy (by rfl) ?_ ?_<;>intro hC<;>(try cases hC)))
   all_goals first
    | (refine am ?_
       refine bi (x:=.c (.v (.bool false))) rfl aN ⟨?_,rfl⟩
       rw [jQ hk (by unfold et;simp_all;try omega)])
    | (refine⟨N-1,m+2,omq,⟨omq,fun j hj=>?_⟩,?_⟩
       ·rcases Nat.lt_or_ge j (m+1) with h|h
        ·exact hall j h
        ·obtain rfl:j=m+1:=by omega
         unfold et;simp_all;try omega
       ·(refine aC _ _ rfl rfl ?_ ?_<;>(repeat' (first|exact TmOk.nil|exact RwOk.nil|refine TmOk.cons ?_ ?_|refine RwOk.cons ?_ ?_|rfl|(refine rnV_id' rfl ?_;exact byc)|(refine bv ?_;first|rfl|omega|(rw [aW omq omq];omega))|(refine aK rfl ?_;exact byc)|exact cb rfl rfl|(refine rw_mid (by rfl) (by rfl) ?_ ?_<;>exact byc)|(refine rw_rn' rfl rfl ?_;simp;done)))))
    | skip
 ·repeat' (first|refine ae ?_|refine au ?_|refine aa fun C=>?_|refine ab ?_|refine bD ?_|refine il (fQ _ _ _) ?_)
  refine am ?_
  refine bi rfl aN ⟨?_,rfl⟩
  rw [n4 fun j hj=>hall j (by simp at h1;omega)]
  refine congrArg (fun s=>AV.c (AC.v (Value.bool s))) ?_
  unfold inR
  (rw [Bool.eq_iff_iff];(try simp only [Bool.and_eq_true,Bool.or_eq_true,Bool.not_eq_true',decide_eq_true_iff,decide_eq_false_iff_not,beq_iff_eq,Bool.and_eq_false_iff,Bool.or_eq_false_iff,bne_iff_ne,ne_eq,Bool.true_eq_false,Bool.false_eq_true,true_iff,false_iff,iff_true,iff_false] at *);first|omega|(simp at *;omega))
theorem xG {x:E}(hx:x.Ty prog 39):Ctr prog 165 [.ag (acE x)] [] (.c (.v (.bool (fy x.rk)))) []:=by
 obtain⟨y0,y1,y2A,y2c,y2l,rfl,gy0,gy1,gy2,-⟩:=aR hx
 refine av func165 rfl rfl ?_
 repeat' (first|(apply ay;first|refine bO ?_|(refine aU ?_ ?_<;>intro hG<;>(try cases hG))|refine ak ?_|refine bd ?_|refine aL ?_|refine aq ?_|refine aF ?_|refine bL ?_)|refine al ?_|refine ab ?_|refine aa fun C=>?_|refine ae ?_)
 all_goals
  (first|refine am ?_|skip);refine bi rfl aN ⟨?_,rfl⟩;refine congrArg (fun s=>AV.c (AC.v (Value.bool s))) ?_
  simp only [E.rk]
  unfold fy
  (rw [Bool.eq_iff_iff];(try simp only [Bool.and_eq_true,Bool.or_eq_true,Bool.not_eq_true',decide_eq_true_iff,decide_eq_false_iff_not,beq_iff_eq,Bool.and_eq_false_iff,Bool.or_eq_false_iff,bne_iff_ne,ne_eq,Bool.true_eq_false,Bool.false_eq_true,true_iff,false_iff,iff_true,iff_false] at *);first|omega|(simp at *;omega))
theorem xH {x:E}(hx:x.Ty prog 39)(k:Int){c1 c2:AC}(h1:clo c1=true)(h2:clo c2=true):Ctr prog 164 [.ag (acE x),.c (.pt 0 0)] [[.v (.int .i64 k),c1,c2]] (.c (.v (.bool (x.rk==k)))) [[.v (.int .i64 k),c1,c2]]:=by
 obtain⟨y0,y1,y2A,y2c,y2l,rfl,gy0,gy1,gy2,-⟩:=aR hx
 refine av func164 rfl rfl ?_
 repeat' (first|(apply ay;first|refine ak ?_|refine bd ?_|refine aL ?_|refine aq ?_|refine bL ?_)|refine al ?_|refine ab ?_|refine aa fun C=>?_|refine ae ?_)
 refine am ?_
 exact eo (x:=.c (.v (.bool (y0==k)))) (rw:=⟨0,0,0,true,[.v (.int .i64 k),c1,c2]⟩) rfl rfl rfl (by simp [bf,clo,h1,h2]) rfl ⟨rfl,rfl⟩
theorem mL {s:ByteArray}:(s.toList==(ByteArray.mk #[]).toList)=(s.size==0):=by
 rw [Bool.eq_iff_iff]
 simp only [beq_iff_eq]
 exact⟨fun h=>by have:=toList_inj h;rw [this];rfl,fun h=>by rw [iv h];rfl⟩
theorem ib0 {n:Nat}:((n:Int)==0)=(n==0):=by rw [Bool.eq_iff_iff];simp only [beq_iff_eq];omega
theorem ib1 {n:Nat}:((n:Int)==1)=(n==1):=by rw [Bool.eq_iff_iff];simp only [beq_iff_eq];omega
theorem xI {n:Nat}:inR (n:Int) 2 8=(decide (2≤n)&&decide (n≤8)):=by
 unfold inR
 rw [Bool.eq_iff_iff];simp only [Bool.and_eq_true,decide_eq_true_iff];omega
theorem mM {x0:Int}{x1:ByteArray}{A:Option Addr}{c:Nat}{l:List E}:ls (E.agg [.int .i64 x0,.str x1,.lst 3 39 A c l])=(eO x0 x1 l&&!((x0==4||x0==5)&&l.any fun x=>x.rk==x0)):=rfl
end Go.Proofs.YtmnneflenebgmaaGreat
