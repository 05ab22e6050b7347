/- T -/
import Derived.Deep.DeepCutAuto
import Derived.Test.YtomolhbkdhjofaaGreatDoorParXAQ
set_option maxHeartbeats 0
set_option maxRecDepth 100000
namespace Go.Proofs.YtomolhbkdhjofaaGreatDoor
open Go.RowKit Go.Proofs.Tryz
def pxS (s:ByteArray):Bool:=decide ((iq s).2 = -1)&&(!(rdS s).2.b&&(decide ((rdS s).2.a=(gx s).length)&&fx (rdS s).1))
theorem ze6 (s:ByteArray):pxS s=true↔acS s:=by
 unfold pxS acS
 simp only [Bool.and_eq_true,Bool.not_eq_true',decide_eq_true_iff]
theorem pxS_I (s:ByteArray):pxS s=pxI s:=by rw [Bool.eq_iff_iff,ze6,rg];exact (pD s).1.symm
theorem pxE_S (s:ByteArray):pxE s=if pxS s=true then (rdS s).1 else zE:=by
 unfold pxE
 rw [pxS_I]
 by_cases h:pxI s=true
 ·rw [if_pos h,if_pos h];exact (pD s).2 ((rg s).1 h)
 ·rw [if_neg h,if_neg h]
theorem ze8 (s:ByteArray):PS' (gx s) 21 ⟨0,false,0⟩ (rdS s).1 (rdS s).2:=sI (db s).1 _ _ (Nat.zero_le _)
theorem zo2 (T:TypeId)(n:Nat)(l:List E):fzL [.ow T n 3 (owL l)]=[.ro n 3 (acL l)]:=by simp only [fzL,fzC,l7]
theorem mc {s:ByteArray}(hs:s.size≤1048576):Ctr prog 13 [.c (.v (.string s))] [] (.tu [.ag (owE (pxE s)),.c (.v (.bool (pxI s)))]) []:=by
 rw [pxE_S,←pxS_I]
 have c1:=fun (w:World) (g:GlobOk w)=>ziQ hs w g
 have hl:=il s
 have hlm:((gx s).map T3.E).length=(gx s).length:=List.length_map ..
 have k2:=xO (il s) (db s).1 21 omq ⟨0,(iq s).2 != -1,0⟩ (Nat.zero_le _) (by dsimp only;omega) omq (by dsimp only;omega)
 by_cases hp:(iq s).2 = -1
 ·have e1:((iq s).2 != -1)=false:=by rw [hp];rfl
  rw [e1] at k2 c1
  rw [show exS (gx s) 21 ⟨0,false,0⟩=rdS s from rfl] at k2
  have hps:=ze8 s
  have hn:=hps.n
  have hf:=hps.fine
  have c3:(rdS s).2.b=false→Ctr prog 9 [.ag (acE (rdS s).1)] [] (.c (.v (.bool (fx (rdS s).1)))) []:=fun h=>by
   have h0:(rdS s).2.b.toNat=0:=by rw [h];rfl
   have h1:=hn.2.2.2.1 h0
   have h2:=hn.2.1
   dsimp only at h1
   exact pp hf.ty.1 omq
  unfold pxS
  rw [decide_eq_true hp,Bool.true_and]
  clear hn hps e1 hp
  generalize rdS s=x at *
  obtain⟨e,⟨a,b,d⟩⟩:=x
  dsimp only at *
  generalize gx s=L at *
  generalize fx e=eb at *
  cases hf with
  | mk k n u l _ _ _ _ =>
  unfold cO at k2
  dsimp only at k2
  refine ay func13 rfl rfl ?_
  refine ac ?_
  refine aa fun C=>?_
  repeat' (first|(apply av;first|refine bC ?_|(apply ua;first|(refine aK ?_ ?_<;>intro hG<;>(try cases hG))|refine ak ?_|refine az ?_)|(apply ub;first|refine ai ?_|refine az ?_)|refine ba ?_|refine iG ?_|refine aI ?_|refine dy ?_|refine cS ?_|refine bL ?_|refine ql ?_|(apply f_bi;first|refine bN ?_|refine be ?_|refine cU ?_|refine az ?_)|refine bg ?_|refine n_sto ?_|(apply yO;first|refine aQ ?_|refine az ?_)|(apply f_no;first|refine bM ?_|refine az ?_)|(apply f_pk;first|refine aA ?_|refine az ?_)|refine bI ?_|refine az ?_)|refine aj ?_|refine ab ?_|(apply dc;first|refine fE ?_|refine o_sk0 ?_|(refine fB ?_ ?_<;>intro hG<;>(try cases hG))|(apply dx;refine aH ?_)|(apply ki;refine aH ?_)|refine d5 ?_|refine gp ?_|(apply x8;first|refine cg ?_|refine d9 ?_|refine ew ?_|refine gP ?_|refine aH ?_|refine vt ?_)|(apply d_bi;first|refine ez ?_|refine eO ?_|refine oS ?_|refine nA ?_|refine nA (hnu:=bytC_noUn _) ?_|refine o_app0 ?_|refine o_app0 (hnu:=bytC_noUn _) ?_|refine aH ?_)|refine mK ?_|refine o_sto ?_|(apply fD;first|refine cP ?_|refine di ?_|refine dC ?_|refine iY ?_|refine aH ?_)|refine rJ ?_|refine aH ?_)|refine aj ?_|refine ab ?_)
  refine ac ?_
  refine aa fun C=>?_
  repeat' (first|(apply av;refine zm2 (by kernel_rfl) c1 ?_)|(apply av;first|refine bC ?_|(apply ua;first|(refine aK ?_ ?_<;>intro hG<;>(try cases hG))|refine ak ?_|refine az ?_)|(apply ub;first|refine ai ?_|refine az ?_)|refine ba ?_|refine iG ?_|refine aI ?_|refine dy ?_|refine cS ?_|refine bL ?_|refine ql ?_|(apply f_bi;first|refine bN ?_|refine be ?_|refine cU ?_|refine az ?_)|refine bg ?_|refine n_sto ?_|(apply yO;first|refine aQ ?_|refine az ?_)|(apply f_no;first|refine bM ?_|refine az ?_)|(apply f_pk;first|refine aA ?_|refine az ?_)|refine bI ?_|refine az ?_)|refine aj ?_|refine ab ?_|(apply dc;first|refine fE ?_|refine o_sk0 ?_|(refine fB ?_ ?_<;>intro hG<;>(try cases hG))|(apply dx;refine aH ?_)|(apply ki;refine aH ?_)|refine d5 ?_|refine gp ?_|(apply x8;first|refine cg ?_|refine d9 ?_|refine ew ?_|refine gP ?_|refine aH ?_|refine vt ?_)|(apply d_bi;first|refine ez ?_|refine eO ?_|refine oS ?_|refine nA ?_|refine nA (hnu:=bytC_noUn _) ?_|refine o_app0 ?_|refine o_app0 (hnu:=bytC_noUn _) ?_|refine aH ?_)|refine mK ?_|refine o_sto ?_|(apply fD;first|refine cP ?_|refine di ?_|refine dC ?_|refine iY ?_|refine aH ?_)|refine rJ ?_|refine aH ?_)|refine aj ?_|refine ab ?_)
  refine a7 (g_frz (i:=7) rfl (pre:=[]) (post:=[.v (.int .i64 0),.v (.bool false),.v (.int .i64 0)]) rfl (zo2 _ _ _) rfl) ?_
  cases b with
  | true =>
   rw [show (!true&&(decide (a=L.length)&&eb))=false from rfl,if_neg (by simp)]
   repeat' (first|(apply av;first|refine ak ?_|refine aF 7 (k2) ?_ (hl:=cH (by rfl) dX)|refine bg ?_|refine bI ?_)|refine aj ?_|refine ab ?_|(apply dc;first|refine fE ?_|(refine fB ?_ ?_<;>intro hG<;>(try cases hG))|(apply dx;refine aH ?_)|refine d5 ?_|refine cg ?_|refine aH ?_)|refine aj ?_|refine ab ?_|refine aa fun C=>?_|refine au (by kernel_rfl) (by kernel_rfl) fun C=>?_|refine ac ?_)
   refine aq rfl ?_
   repeat' (first|(apply av;first|refine ai ?_|refine bg ?_|refine az ?_)|refine aj ?_|refine ab ?_|refine aa fun C=>?_|refine ac ?_)
   refine a7 (cR 90000 (i:=2) 26 4 rfl rfl (pre:=[_,_,_]) (post:=[]) rfl) ?_
   exact rtq3
  | false =>
   have c3:=c3 rfl
   by_cases ha:a=L.length
   ·subst ha
    cases eb with
    | false =>
     rw [show (!false&&(decide (L.length=L.length)&&false))=false by simp,if_neg (by simp)]
     repeat' (first|(apply av;first|refine ak ?_|refine aF 7 (k2) ?_ (hl:=cH (by rfl) dX)|refine bg ?_|refine bI ?_)|refine aj ?_|refine ab ?_|(apply dc;first|refine fE ?_|(refine fB ?_ ?_<;>intro hG<;>(try cases hG))|(apply dx;refine aH ?_)|refine d5 ?_|refine cg ?_|refine gP ?_|refine eG c3 ?_|refine ez ?_|(apply fD;refine aH ?_)|refine aH ?_)|refine aj ?_|refine ab ?_|refine aa fun C=>?_|refine au (by kernel_rfl) (by kernel_rfl) fun C=>?_|refine ac ?_)
     ·exfalso;rw [hlm] at hG;simp at hG
     ·refine aq rfl ?_
      repeat' (first|(apply av;first|refine ai ?_|refine bg ?_|refine az ?_)|refine aj ?_|refine ab ?_|refine aa fun C=>?_|refine ac ?_)
      refine a7 (cR 90000 (i:=2) 26 4 rfl rfl (pre:=[_,_,_]) (post:=[]) rfl) ?_
      exact rtq3
    | true =>
     rw [show (!false&&(decide (L.length=L.length)&&true))=true by simp,if_pos rfl]
     repeat' (first|(apply av;first|refine ak ?_|refine aF 7 (k2) ?_ (hl:=cH (by rfl) dX)|refine bg ?_|refine bI ?_)|refine aj ?_|refine ab ?_|(apply dc;first|refine fE ?_|(refine fB ?_ ?_<;>intro hG<;>(try cases hG))|(apply dx;refine aH ?_)|refine d5 ?_|refine cg ?_|refine gP ?_|refine eG c3 ?_|refine ez ?_|(apply fD;refine aH ?_)|refine aH ?_)|refine aj ?_|refine ab ?_|refine aa fun C=>?_|refine au (by kernel_rfl) (by kernel_rfl) fun C=>?_|refine ac ?_)
     ·exfalso;rw [hlm] at hG;simp at hG
     ·refine ar rfl ?_
      repeat' (first|(apply av;first|refine ai ?_|refine bL ?_|refine bg ?_)|refine aj ?_|refine ab ?_|refine aa fun C=>?_|refine ac ?_|refine al ?_)
      exact rtq3
   ·rw [show (!false&&(decide (a=L.length)&&eb))=false by simp [ha],if_neg (by simp)]
    repeat' (first|(apply av;first|refine ak ?_|refine aF 7 (k2) ?_ (hl:=cH (by rfl) dX)|refine bg ?_|refine bI ?_)|refine aj ?_|refine ab ?_|(apply dc;first|refine fE ?_|(refine fB ?_ ?_<;>intro hG<;>(try cases hG))|(apply dx;refine aH ?_)|refine d5 ?_|refine cg ?_|refine gP ?_|refine eG c3 ?_|refine ez ?_|(apply fD;refine aH ?_)|refine aH ?_)|refine aj ?_|refine ab ?_|refine aa fun C=>?_|refine au (by kernel_rfl) (by kernel_rfl) fun C=>?_|refine ac ?_)
    ·refine aq rfl ?_
     repeat' (first|(apply av;first|refine ai ?_|refine bg ?_|refine az ?_)|refine aj ?_|refine ab ?_|refine aa fun C=>?_|refine ac ?_)
     refine a7 (cR 90000 (i:=2) 26 4 rfl rfl (pre:=[_,_,_]) (post:=[]) rfl) ?_
     exact rtq3
    ·exfalso
     rw [hlm] at hG
     have hG:((a:Int) != (L.length:Int))=false:=hG
     simp at hG
     omega
 ·have e1:((iq s).2 != -1)=true:=by simpa using hp
  rw [e1] at k2 c1
  rw [show exS (gx s) 21 ⟨0,true,0⟩=(zE,⟨0,true,1⟩) from rfl] at k2
  unfold pxS
  rw [decide_eq_false hp,Bool.false_and,if_neg (by simp)]
  generalize gx s=L at *
  unfold cO zE at k2
  dsimp only at k2
  refine ay func13 rfl rfl ?_
  refine ac ?_
  refine aa fun C=>?_
  repeat' (first|(apply av;first|refine bC ?_|(apply ua;first|(refine aK ?_ ?_<;>intro hG<;>(try cases hG))|refine ak ?_|refine az ?_)|(apply ub;first|refine ai ?_|refine az ?_)|refine ba ?_|refine iG ?_|refine aI ?_|refine dy ?_|refine cS ?_|refine bL ?_|refine ql ?_|(apply f_bi;first|refine bN ?_|refine be ?_|refine cU ?_|refine az ?_)|refine bg ?_|refine n_sto ?_|(apply yO;first|refine aQ ?_|refine az ?_)|(apply f_no;first|refine bM ?_|refine az ?_)|(apply f_pk;first|refine aA ?_|refine az ?_)|refine bI ?_|refine az ?_)|refine aj ?_|refine ab ?_|(apply dc;first|refine fE ?_|refine o_sk0 ?_|(refine fB ?_ ?_<;>intro hG<;>(try cases hG))|(apply dx;refine aH ?_)|(apply ki;refine aH ?_)|refine d5 ?_|refine gp ?_|(apply x8;first|refine cg ?_|refine d9 ?_|refine ew ?_|refine gP ?_|refine aH ?_|refine vt ?_)|(apply d_bi;first|refine ez ?_|refine eO ?_|refine oS ?_|refine nA ?_|refine nA (hnu:=bytC_noUn _) ?_|refine o_app0 ?_|refine o_app0 (hnu:=bytC_noUn _) ?_|refine aH ?_)|refine mK ?_|refine o_sto ?_|(apply fD;first|refine cP ?_|refine di ?_|refine dC ?_|refine iY ?_|refine aH ?_)|refine rJ ?_|refine aH ?_)|refine aj ?_|refine ab ?_)
  refine ac ?_
  refine aa fun C=>?_
  repeat' (first|(apply av;refine zm2 (by kernel_rfl) c1 ?_)|(apply av;first|refine bC ?_|(apply ua;first|(refine aK ?_ ?_<;>intro hG<;>(try cases hG))|refine ak ?_|refine az ?_)|(apply ub;first|refine ai ?_|refine az ?_)|refine ba ?_|refine iG ?_|refine aI ?_|refine dy ?_|refine cS ?_|refine bL ?_|refine ql ?_|(apply f_bi;first|refine bN ?_|refine be ?_|refine cU ?_|refine az ?_)|refine bg ?_|refine n_sto ?_|(apply yO;first|refine aQ ?_|refine az ?_)|(apply f_no;first|refine bM ?_|refine az ?_)|(apply f_pk;first|refine aA ?_|refine az ?_)|refine bI ?_|refine az ?_)|refine aj ?_|refine ab ?_|(apply dc;first|refine fE ?_|refine o_sk0 ?_|(refine fB ?_ ?_<;>intro hG<;>(try cases hG))|(apply dx;refine aH ?_)|(apply ki;refine aH ?_)|refine d5 ?_|refine gp ?_|(apply x8;first|refine cg ?_|refine d9 ?_|refine ew ?_|refine gP ?_|refine aH ?_|refine vt ?_)|(apply d_bi;first|refine ez ?_|refine eO ?_|refine oS ?_|refine nA ?_|refine nA (hnu:=bytC_noUn _) ?_|refine o_app0 ?_|refine o_app0 (hnu:=bytC_noUn _) ?_|refine aH ?_)|refine mK ?_|refine o_sto ?_|(apply fD;first|refine cP ?_|refine di ?_|refine dC ?_|refine iY ?_|refine aH ?_)|refine rJ ?_|refine aH ?_)|refine aj ?_|refine ab ?_)
  refine a7 (g_frz (i:=7) rfl (pre:=[]) (post:=[.v (.int .i64 0),.v (.bool true),.v (.int .i64 0)]) rfl (zo2 _ _ _) rfl) ?_
  repeat' (first|(apply av;first|refine ak ?_|refine aF 7 (k2) ?_ (hl:=cH (by rfl) dX)|refine bg ?_|refine bI ?_)|refine aj ?_|refine ab ?_|(apply dc;first|refine fE ?_|(refine fB ?_ ?_<;>intro hG<;>(try cases hG))|(apply dx;refine aH ?_)|refine d5 ?_|refine cg ?_|refine aH ?_)|refine aj ?_|refine ab ?_|refine aa fun C=>?_|refine au (by kernel_rfl) (by kernel_rfl) fun C=>?_|refine ac ?_)
  refine aq rfl ?_
  repeat' (first|(apply av;first|refine ai ?_|refine bg ?_|refine az ?_)|refine aj ?_|refine ab ?_|refine aa fun C=>?_|refine ac ?_)
  refine a7 (cR 90000 (i:=2) 26 4 rfl rfl (pre:=[_,_,_]) (post:=[]) rfl) ?_
  exact rtq3
theorem avO_x {e:E}(h:FnX e):avO e=.ag (owE e):=by
 cases h with
 | mk k n s l _ _ _ _=>rfl
theorem oo (s:ByteArray):FnX (pxE s):=by
 unfold pxE
 split
 ·exact (xV s).fine
 ·exact FnX.zero
theorem zf8 (s:ByteArray):(pxE s).sz≤1073741824:=by
 unfold pxE
 split
 ·rename_i h
  have h1:=(rg s).1 h
  have h2:=(l9 (xV s).fine h1.2.1).1
  omega
 ·decide
noncomputable def pxD (s:ByteArray):E:=(pxE s).d
theorem zp2 {f:FuncId}{s:ByteArray}(hc:Ctr prog f [.c (.v (.string s))] [] (.tu [avO (pxE s),.c (.v (.bool (pxI s)))]) [])(w:World)(gw:Gl w:=by (first|assumption|exact gl_any _|exact Gl.below_ gl0 by2)) :
 Calls prog f #[.string s] w fun r w'=>∃x:E,r=.returned (.tuple #[x.val,.bool (pxI s)])∧x.d=pxD s∧x.Ty prog 26∧x.Ho w' w.heap.size w'.heap.size∧x.fp.Nodup∧Below w.heap.size w w' :=
 yE (t:=26) (D:=pxE s) rfl hc (oo s).ty.1 (us:=[.string s]) (VRL_cons (VR_str s) VRL_nil)
theorem xW {s:ByteArray}:(pxD s).sz≤1073741824:=by
 unfold pxD
 rw [E.sz_d]
 exact zf8 s
theorem me (s:ByteArray)(w:World)(hs:s.size≤1048576)(gw:Gl w:=by (first|assumption|exact gl_any _|exact Gl.below_ gl0 by2)) :
 Calls prog 13 #[.string s] w fun r w'=>∃x:E,r=.returned (.tuple #[x.val,.bool (pxI s)])∧Hid (x.d=pxD s)∧x.Ty prog 26∧x.Re w' w.heap.size w'.heap.size∧Below w.heap.size w w' :=
 (zp2 (f:=13) (by rw [avO_x (oo s)];exact mc hs) w gw).mono fun _ _ ⟨x,h1,h2,h3,h4,h5,h6⟩=>⟨x,h1,h2,h3,h4.re,h6⟩
theorem g8 (s:ByteArray)(w:World)(hs:s.size≤1048576)(gw:Gl w:=by (first|assumption|exact gl_any _|exact Gl.below_ gl0 by2)) :
 Calls prog 11 #[.string s] w fun r w'=>∃x:E,r=.returned (.tuple #[x.val,.bool (pxI s)])∧Hid (x.d=pxD s)∧x.Ty prog 26∧x.Ho w' w.heap.size w'.heap.size∧x.fp.Nodup∧Below w.heap.size w w' :=
 (zp2 (f:=11) (by rw [avO_x (oo s)];exact mb hs) w gw).mono fun _ _ ⟨x,h1,h2,h3,h4,h5,h6⟩=>⟨x,h1,h2,h3,h4,h5,h6⟩
theorem oq (w:World)(a0:ByteArray)(ga0:a0.size≤9223372036854775807)(gl0:Gl w) :
 Calls prog 4 #[.string a0] w fun e w'=>e=.returned (.bool true)∧Below w.heap.size w w':=by
 change Calls _ _ #[.string a0] w _
 by_cases hsz0:(1048576:Int)<a0.size
 ·go_enter func4,Tryz.ntmps4
  go_wp2
  go_ret
  exact⟨rfl,by exact by0⟩
 go_enter func4,Tryz.ntmps4
 go_upto_region 3 with fail
 go_cut [3,4] (fun s3 s4 wx=>∃(g0:Nat) (x1a_0:Int) (x1a_1:Int) (x1a_2:ByteArray) (x1a_3A:Option Addr) (x1a_3c:Nat) (x1a_3l:List E),s3=.pointer (some ⟨g0,0,none⟩)∧s4=.bool (pxI a0)∧wx.heap[g0]? = some (.cells #[.int .i64 x1a_0,.int .i64 x1a_1,.string x1a_2,.slice x1a_3A x1a_3l.length x1a_3c] 26 (0,0))∧w.heap.size≤g0∧Hid ((E.agg [.int .i64 x1a_0,.int .i64 x1a_1,.str x1a_2,.lst 4 26 x1a_3A x1a_3c x1a_3l]).Ty prog 26)∧Hid ((E.agg [.int .i64 x1a_0,.int .i64 x1a_1,.str x1a_2,.lst 4 26 x1a_3A x1a_3c x1a_3l]).d=pxD a0)∧(E.agg [.int .i64 x1a_0,.int .i64 x1a_1,.str x1a_2,.lst 4 26 x1a_3A x1a_3c x1a_3l]).Re wx w.heap.size wx.heap.size∧Below w.heap.size w wx)
 case first =>
  go_wp2_with fail
  go_at_call 13
  refine (me a0 _ omq).mono ?_;rintro e1 w1 ⟨x1a,e1h,HD1a,ht1a,hi1a,hb1⟩;have HD1a:Hid (x1a.d=pxD a0):=(by have h:=HD1a.out;exact h);have HT1a:=Lib.hid ht1a;obtain⟨x1a_0,x1a_1,x1a_2,x1a_3A,x1a_3c,x1a_3l,rfl,-,-,-,-,-⟩:=aO ht1a;obtain rfl:e1=.returned (.tuple #[.agg #[.int .i64 x1a_0,.int .i64 x1a_1,.string x1a_2,.slice x1a_3A x1a_3l.length x1a_3c],.bool (pxI a0)]):=e1h;clear ht1a;have hz1:=hb1.size;(try simp only [World.size_alloc,World.size_drew,World.heap_drewN,World.size_setCell] at hz1)
  go_wp2_with fail
  go_meet
  refine⟨_,x1a_0,x1a_1,x1a_2,x1a_3A,x1a_3c,x1a_3l,rfl,rfl,?_,?_,?_,?_,?_,?_⟩
  ·(repeat (first|(with_reducible assumption)|(with_reducible refine hp_drew ?_)|(with_reducible refine hp_drewN ?_)|(refine um ?_;first|rfl|(simp;done))|(with_reducible refine hp_alloc ?_ ?_)|(refine hp_below (by with_reducible assumption) ?_ ?_)|omega|(·simp)|(·(simp;omega))))
  ·first|omega|(simp;done)|(simp;omega)
  ·exact HT1a
  ·exact HD1a
  ·refine E.Re.fin hi1a (fun hh=>?_) ?_ ?_
   ·(repeat (first|(with_reducible assumption)|(with_reducible refine E.Re.drew ?_)|(with_reducible refine E.Re.drewN ?_ _)|(with_reducible refine E.Re.alloc ?_ ?_ _)|(with_reducible refine E.Re.setAny ?_ ?_ _)|(refine E.Re.below ?_ (by with_reducible assumption) ?_)|(first|omega|(dsimp only;omega)|(simp only [World.size_alloc,World.size_drew,World.heap_drewN,World.size_setCell];omega)|(simp;done)|(simp;omega))))
   ·(first|omega|(dsimp only;omega)|(simp only [World.size_alloc,World.size_drew,World.heap_drewN,World.size_setCell];omega)|(simp;done)|(simp;omega))
   ·(first|omega|(dsimp only;omega)|(simp only [World.size_alloc,World.size_drew,World.heap_drewN,World.size_setCell];omega)|(simp;done)|(simp;omega))
  ·exact by0
 case rest =>
  obtain⟨g0,x1a_0,x1a_1,x1a_2,x1a_3A,x1a_3c,x1a_3l,rfl,rfl,B1_0,lb0,HT1a,HD1a,I1_1a,hb1⟩:=hcut
  obtain⟨W1,hWeq⟩:∃W:World,W=wc:=⟨_,rfl⟩
  subst hWeq
  have hs1:=hb1.size
  have lu0:=ul B1_0
  have hB1:Below w.heap.size w W1:=hb1
  go_upto_region 4 with fail
  go_cut [5,6] (fun s5 s6 wx=>∃(g1:Nat) (x2a_0:Int) (x2a_1:Int) (x2a_2:ByteArray) (x2a_3A:Option Addr) (x2a_3c:Nat) (x2a_3l:List E),s5=.pointer (some ⟨g1,0,none⟩)∧s6=.bool (pxI a0)∧wx.heap[g1]? = some (.cells #[.int .i64 x2a_0,.int .i64 x2a_1,.string x2a_2,.slice x2a_3A x2a_3l.length x2a_3c] 26 (0,0))∧W1.heap.size≤g1∧g1∉(E.agg [.int .i64 x2a_0,.int .i64 x2a_1,.str x2a_2,.lst 4 26 x2a_3A x2a_3c x2a_3l]).fp∧Hid ((E.agg [.int .i64 x2a_0,.int .i64 x2a_1,.str x2a_2,.lst 4 26 x2a_3A x2a_3c x2a_3l]).Ty prog 26)∧Hid ((E.agg [.int .i64 x2a_0,.int .i64 x2a_1,.str x2a_2,.lst 4 26 x2a_3A x2a_3c x2a_3l]).d=pxD a0)∧Hid ((E.agg [.int .i64 x2a_0,.int .i64 x2a_1,.str x2a_2,.lst 4 26 x2a_3A x2a_3c x2a_3l]).Ho wx W1.heap.size wx.heap.size)∧Hid (E.agg [.int .i64 x2a_0,.int .i64 x2a_1,.str x2a_2,.lst 4 26 x2a_3A x2a_3c x2a_3l]).fp.Nodup∧Below W1.heap.size W1 wx)
  case first =>
   have hwW:=hB1.size
   clear hs1 lu0 lb0
   clear B1_0 I1_1a
   go_wp2_with fail
   go_at_call 11
   refine (g8 a0 _ omq).mono ?_;rintro e2 w2 ⟨x2a,e2h,HD2a,ht2a,ho2a,hn2a,hb2⟩;have HD2a:Hid (x2a.d=pxD a0):=(by have h:=HD2a.out;exact h);have HT2a:=Lib.hid ht2a;obtain⟨x2a_0,x2a_1,x2a_2,x2a_3A,x2a_3c,x2a_3l,rfl,-,-,-,-,-⟩:=aO ht2a;obtain rfl:e2=.returned (.tuple #[.agg #[.int .i64 x2a_0,.int .i64 x2a_1,.string x2a_2,.slice x2a_3A x2a_3l.length x2a_3c],.bool (pxI a0)]):=e2h;have HO2a:=Lib.hid ho2a;have HN2a:=Lib.hid hn2a;clear ho2a hn2a ht2a;have hz2:=hb2.size;(try simp only [World.size_alloc,World.size_drew,World.heap_drewN,World.size_setCell] at hz2)
   go_wp2_with fail
   go_meet
   refine⟨_,x2a_0,x2a_1,x2a_2,x2a_3A,x2a_3c,x2a_3l,rfl,rfl,?_,?_,?_,?_,?_,?_,?_,?_⟩
   ·(repeat (first|(with_reducible assumption)|(with_reducible refine hp_drew ?_)|(with_reducible refine hp_drewN ?_)|(refine um ?_;first|rfl|(simp;done))|(with_reducible refine hp_alloc ?_ ?_)|(refine hp_below (by with_reducible assumption) ?_ ?_)|omega|(·simp)|(·(simp;omega))))
   ·first|omega|(simp;done)|(simp;omega)
   ·(intro hm;have h:=HO2a.out.lt _ hm;(try simp only [World.size_alloc,World.size_drew,World.heap_drewN,World.size_setCell] at h);omega)
   ·exact HT2a
   ·exact HD2a
   ·refine E.Ho.fin HO2a.out (fun hh=>?_) ?_ ?_
    ·(repeat (first|(with_reducible assumption)|(with_reducible refine E.Ho.drew ?_)|(with_reducible refine E.Ho.drewN ?_ _)|(with_reducible refine E.Ho.alloc ?_ ?_ _)|(with_reducible refine E.Ho.setAny ?_ ?_ _)|(refine E.Ho.below ?_ (by with_reducible assumption) ?_)|(first|omega|(dsimp only;omega)|(simp only [World.size_alloc,World.size_drew,World.heap_drewN,World.size_setCell];omega)|(simp;done)|(simp;omega))))
    ·(first|omega|(dsimp only;omega)|(simp only [World.size_alloc,World.size_drew,World.heap_drewN,World.size_setCell];omega)|(simp;done)|(simp;omega))
    ·(first|omega|(dsimp only;omega)|(simp only [World.size_alloc,World.size_drew,World.heap_drewN,World.size_setCell];omega)|(simp;done)|(simp;omega))
   ·exact HN2a
   ·exact by0
  case rest =>
   obtain⟨g1,x2a_0,x2a_1,x2a_2,x2a_3A,x2a_3c,x2a_3l,rfl,rfl,B2_1,lb1,nb1_2a,HT2a,HD2a,HO2_2a,HN2a,hb2⟩:=hcut
   obtain⟨W2,hWeq⟩:∃W:World,W=wc:=⟨_,rfl⟩
   subst hWeq
   have hs2:=hb2.size
   have lu1:=ul B2_1
   have B2_0:=(hb2.block g0 omq).trans B1_0
   clear B1_0
   have I2_1a:=I1_1a.below hb2 omq
   clear I1_1a
   have hB2:Below w.heap.size w W2:=hB1.trans (hb2.mono omq)
   go_upto_region 5 with fail
   go_cut [32] (fun s32 wx=>s32=.bool false∧Below W2.heap.size W2 wx)
   case first =>
    have hwW:=hB2.size
    have ltW1:g1<W2.heap.size:=by omega
    have ltW0:g0<W2.heap.size:=by omega
    have hiW1a:W1.heap.size≤W2.heap.size:=by omega
    have hiW2a:W2.heap.size≤W2.heap.size:=by omega
    clear lu0 lb0 lu1 lb1 nb1_2a
    have z0_1_0:W2.cell? ⟨g1,0,none⟩=some (.int .i64 x2a_0):=cu B2_1 rfl
    have z0_1_1:W2.cell? ⟨g1,1,none⟩=some (.int .i64 x2a_1):=cu B2_1 rfl
    have z0_1_2:W2.cell? ⟨g1,2,none⟩=some (.string x2a_2):=cu B2_1 rfl
    have z0_1_3:W2.cell? ⟨g1,3,none⟩=some (.slice x2a_3A x2a_3l.length x2a_3c):=cu B2_1 rfl
    have z0_0_0:W2.cell? ⟨g0,0,none⟩=some (.int .i64 x1a_0):=cu B2_0 rfl
    have z0_0_1:W2.cell? ⟨g0,1,none⟩=some (.int .i64 x1a_1):=cu B2_0 rfl
    have z0_0_2:W2.cell? ⟨g0,2,none⟩=some (.string x1a_2):=cu B2_0 rfl
    have z0_0_3:W2.cell? ⟨g0,3,none⟩=some (.slice x1a_3A x1a_3l.length x1a_3c):=cu B2_0 rfl
    go_wp2_with fail
    go_at_call 14
    refine (mJ HT2a.out HT1a.out ((show (E.agg [.int .i64 x2a_0,.int .i64 x2a_1,.str x2a_2,.lst 4 26 x2a_3A x2a_3c x2a_3l]).d=pxD a0 from HD2a.out).trans (show (E.agg [.int .i64 x1a_0,.int .i64 x1a_1,.str x1a_2,.lst 4 26 x1a_3A x1a_3c x1a_3l]).d=pxD a0 from HD1a.out).symm) _ (by have h:(E.agg [.int .i64 x2a_0,.int .i64 x2a_1,.str x2a_2,.lst 4 26 x2a_3A x2a_3c x2a_3l]).In W2:=HO2_2a.out.inn;exact by3) (by have h:(E.agg [.int .i64 x1a_0,.int .i64 x1a_1,.str x1a_2,.lst 4 26 x1a_3A x1a_3c x1a_3l]).In W2:=I2_1a.inn omq;exact by3)).mono ?_;rintro e w3 ⟨rfl,hb3⟩;have hz3:=hb3.size;(try simp only [World.size_alloc,World.size_drew,World.heap_drewN,World.size_setCell] at hz3)
    go_wp2_with fail
    go_meet
    refine⟨rfl,?_⟩
    ·exact by0
   case rest =>
    obtain⟨rfl,hb3⟩:=hcut
    obtain⟨W3,hWeq⟩:∃W:World,W=wc:=⟨_,rfl⟩
    subst hWeq
    have hs3:=hb3.size
    have B3_0:=(hb3.block g0 omq).trans B2_0
    clear B2_0
    have B3_1:=(hb3.block g1 omq).trans B2_1
    clear B2_1
    have I3_1a:=I2_1a.below hb3 omq
    clear I2_1a
    have HO3_2a:=Lib.hid (HO2_2a.out.below hb3 omq)
    clear HO2_2a
    have hB3:Below w.heap.size w W3:=hB2.trans (hb3.mono omq)
    go_upto_region 8 with fail
    go_cut [7] (fun s7 wx=>s7=.int .i64 (1+((E.agg [.int .i64 x2a_0,.int .i64 x2a_1,.str x2a_2,.lst 4 26 x2a_3A x2a_3c x2a_3l]).cnt:Int))∧Hid (((E.agg [.int .i64 x2a_0,.int .i64 x2a_1,.str x2a_2,.lst 4 26 x2a_3A x2a_3c x2a_3l]).mk0 1).Ho wx W1.heap.size W2.heap.size)∧Hid (Fr (E.agg [.int .i64 x2a_0,.int .i64 x2a_1,.str x2a_2,.lst 4 26 x2a_3A x2a_3c x2a_3l]).fp W3 wx))
    case first =>
     have hwW:=hB3.size
     have ltW1:g1<W3.heap.size:=by omega
     have hiW2a:W2.heap.size≤W3.heap.size:=by omega
     clear hs1 lu0 lb0 lu1 lb1 nb1_2a hs3
     clear B3_0 I3_1a
     have z0_1_0:W3.cell? ⟨g1,0,none⟩=some (.int .i64 x2a_0):=cu B3_1 rfl
     have z0_1_1:W3.cell? ⟨g1,1,none⟩=some (.int .i64 x2a_1):=cu B3_1 rfl
     have z0_1_2:W3.cell? ⟨g1,2,none⟩=some (.string x2a_2):=cu B3_1 rfl
     have z0_1_3:W3.cell? ⟨g1,3,none⟩=some (.slice x2a_3A x2a_3l.length x2a_3c):=cu B3_1 rfl
     go_wp2_with fail
     go_at_call 15
     refine (oQ HT2a.out _ _ _ _ HO3_2a.out HN2a.out omq omq (by have:=uo HT2a.out HD2a (xW);omega)).mono ?_;rintro e w4 ⟨rfl,HOm4,hf4⟩
     go_wp2_with fail
     go_meet
     refine⟨rfl,?_,?_⟩
     ·exact HOm4
     ·exact hf4
    case rest =>
     obtain⟨rfl,HOm4_2a,hF4⟩:=hcut
     obtain⟨W4,hWeq⟩:∃W:World,W=wc:=⟨_,rfl⟩
     subst hWeq
     have hs4:=hF4.out.size
     have B4_0:=(hF4.out.block g0 omq (fun hm=>by have:=HO3_2a.out.lt _ hm;omega)).trans B3_0
     clear B3_0
     have B4_1:=(hF4.out.block g1 omq (nb1_2a)).trans B3_1
     clear B3_1
     have I4_1a:=I3_1a.kp (lo':=W1.heap.size) (hi':=W2.heap.size) (hF4.out.kp (fun b hb=>by have:=HO3_2a.out.lt b hb;omega)) (.inl omq)
     clear I3_1a
     have hB4:Below w.heap.size w W4:=hB3.trans (hF4.out.below (fun b hb=>by have:=HO3_2a.out.lt b hb;omega) omq)
     go_upto_region 10 with fail
     go_cut [8] (fun s8 wx=>s8=.int .i64 (1+((E.agg [.int .i64 x2a_0,.int .i64 x2a_1,.str x2a_2,.lst 4 26 x2a_3A x2a_3c x2a_3l]).cnt:Int))∧Below W4.heap.size W4 wx)
     case first =>
      have hwW:=hB4.size
      have ltW1:g1<W4.heap.size:=by omega
      have hiW2a:W2.heap.size≤W4.heap.size:=by omega
      clear hs1 lu0 lb0 lu1 lb1 nb1_2a hs3 hs4
      clear B4_0 I4_1a
      have z0_1_0:W4.cell? ⟨g1,0,none⟩=some (.int .i64 x2a_0):=cu B4_1 rfl
      have z0_1_1:W4.cell? ⟨g1,1,none⟩=some (.int .i64 x2a_1):=cu B4_1 rfl
      have z0_1_2:W4.cell? ⟨g1,2,none⟩=some (.string x2a_2):=cu B4_1 rfl
      have z0_1_3:W4.cell? ⟨g1,3,none⟩=some (.slice x2a_3A x2a_3l.length x2a_3c):=cu B4_1 rfl
      go_wp2_with fail
      go_at_call 16
      refine (jQ HT2a.out _ _ (by have h:((E.agg [.int .i64 x2a_0,.int .i64 x2a_1,.str x2a_2,.lst 4 26 x2a_3A x2a_3c x2a_3l]).mk0 1).In W4:=HOm4_2a.out.inn;exact by3) omq (by have:=uo HT2a.out HD2a (xW);omega)).mono ?_;rintro e w5 ⟨rfl,hb5⟩
      go_wp2_with fail
      go_meet
      refine⟨rfl,?_⟩
      ·exact by0
     case rest =>
      obtain⟨rfl,hb5⟩:=hcut
      obtain⟨W5,hWeq⟩:∃W:World,W=wc:=⟨_,rfl⟩
      subst hWeq
      have hs5:=hb5.size
      have B5_0:=(hb5.block g0 omq).trans B4_0
      clear B4_0
      have B5_1:=(hb5.block g1 omq).trans B4_1
      clear B4_1
      have I5_1a:=I4_1a.below hb5 omq
      clear I4_1a
      have HOm5_2a:=Lib.hid (HOm4_2a.out.below hb5 omq)
      clear HOm4_2a
      have hB5:Below w.heap.size w W5:=hB4.trans (hb5.mono omq)
      go_upto_region 15 with fail
      go_cut [9,10] (fun s9 s10 wx=>∃(g2:Nat) (x6a_0:Int) (x6a_1:Int) (x6a_2:ByteArray) (x6a_3A:Option Addr) (x6a_3c:Nat) (x6a_3l:List E),s9=.pointer (some ⟨g2,0,none⟩)∧s10=.bool (pxI a0)∧wx.heap[g2]? = some (.cells #[.int .i64 x6a_0,.int .i64 x6a_1,.string x6a_2,.slice x6a_3A x6a_3l.length x6a_3c] 26 (0,0))∧W5.heap.size≤g2∧g2∉(E.agg [.int .i64 x6a_0,.int .i64 x6a_1,.str x6a_2,.lst 4 26 x6a_3A x6a_3c x6a_3l]).fp∧Hid ((E.agg [.int .i64 x6a_0,.int .i64 x6a_1,.str x6a_2,.lst 4 26 x6a_3A x6a_3c x6a_3l]).Ty prog 26)∧Hid ((E.agg [.int .i64 x6a_0,.int .i64 x6a_1,.str x6a_2,.lst 4 26 x6a_3A x6a_3c x6a_3l]).d=pxD a0)∧Hid ((E.agg [.int .i64 x6a_0,.int .i64 x6a_1,.str x6a_2,.lst 4 26 x6a_3A x6a_3c x6a_3l]).Ho wx W5.heap.size wx.heap.size)∧Hid (E.agg [.int .i64 x6a_0,.int .i64 x6a_1,.str x6a_2,.lst 4 26 x6a_3A x6a_3c x6a_3l]).fp.Nodup∧Below W5.heap.size W5 wx)
      case first =>
       have hwW:=hB5.size
       clear hs1 lu0 lb0 hs2 lu1 lb1 nb1_2a hs3 hs4 hs5
       clear B5_0 B5_1 I5_1a HOm5_2a
       go_wp2_with fail
       go_at_call 11
       refine (g8 a0 _ omq).mono ?_;rintro e6 w6 ⟨x6a,e6h,HD6a,ht6a,ho6a,hn6a,hb6⟩;have HD6a:Hid (x6a.d=pxD a0):=(by have h:=HD6a.out;exact h);have HT6a:=Lib.hid ht6a;obtain⟨x6a_0,x6a_1,x6a_2,x6a_3A,x6a_3c,x6a_3l,rfl,-,-,-,-,-⟩:=aO ht6a;obtain rfl:e6=.returned (.tuple #[.agg #[.int .i64 x6a_0,.int .i64 x6a_1,.string x6a_2,.slice x6a_3A x6a_3l.length x6a_3c],.bool (pxI a0)]):=e6h;have HO6a:=Lib.hid ho6a;have HN6a:=Lib.hid hn6a;clear ho6a hn6a ht6a;have hz6:=hb6.size;(try simp only [World.size_alloc,World.size_drew,World.heap_drewN,World.size_setCell] at hz6)
       go_wp2_with fail
       go_meet
       refine⟨_,x6a_0,x6a_1,x6a_2,x6a_3A,x6a_3c,x6a_3l,rfl,rfl,?_,?_,?_,?_,?_,?_,?_,?_⟩
       ·(repeat (first|(with_reducible assumption)|(with_reducible refine hp_drew ?_)|(with_reducible refine hp_drewN ?_)|(refine um ?_;first|rfl|(simp;done))|(with_reducible refine hp_alloc ?_ ?_)|(refine hp_below (by with_reducible assumption) ?_ ?_)|omega|(·simp)|(·(simp;omega))))
       ·first|omega|(simp;done)|(simp;omega)
       ·(intro hm;have h:=HO6a.out.lt _ hm;(try simp only [World.size_alloc,World.size_drew,World.heap_drewN,World.size_setCell] at h);omega)
       ·exact HT6a
       ·exact HD6a
       ·refine E.Ho.fin HO6a.out (fun hh=>?_) ?_ ?_
        ·(repeat (first|(with_reducible assumption)|(with_reducible refine E.Ho.drew ?_)|(with_reducible refine E.Ho.drewN ?_ _)|(with_reducible refine E.Ho.alloc ?_ ?_ _)|(with_reducible refine E.Ho.setAny ?_ ?_ _)|(refine E.Ho.below ?_ (by with_reducible assumption) ?_)|(first|omega|(dsimp only;omega)|(simp only [World.size_alloc,World.size_drew,World.heap_drewN,World.size_setCell];omega)|(simp;done)|(simp;omega))))
        ·(first|omega|(dsimp only;omega)|(simp only [World.size_alloc,World.size_drew,World.heap_drewN,World.size_setCell];omega)|(simp;done)|(simp;omega))
        ·(first|omega|(dsimp only;omega)|(simp only [World.size_alloc,World.size_drew,World.heap_drewN,World.size_setCell];omega)|(simp;done)|(simp;omega))
       ·exact HN6a
       ·exact by0
      case rest =>
       obtain⟨g2,x6a_0,x6a_1,x6a_2,x6a_3A,x6a_3c,x6a_3l,rfl,rfl,B6_2,lb2,nb2_6a,HT6a,HD6a,HO6_6a,HN6a,hb6⟩:=hcut
       obtain⟨W6,hWeq⟩:∃W:World,W=wc:=⟨_,rfl⟩
       subst hWeq
       have hs6:=hb6.size
       have lu2:=ul B6_2
       have B6_0:=(hb6.block g0 omq).trans B5_0
       clear B5_0
       have B6_1:=(hb6.block g1 omq).trans B5_1
       clear B5_1
       have I6_1a:=I5_1a.below hb6 omq
       clear I5_1a
       have HOm6_2a:=Lib.hid (HOm5_2a.out.below hb6 omq)
       clear HOm5_2a
       have hB6:Below w.heap.size w W6:=hB5.trans (hb6.mono omq)
       go_upto_region 16 with fail
       go_cut [57] (fun s57 wx=>s57=.bool false∧Below W6.heap.size W6 wx)
       case first =>
        have hwW:=hB6.size
        have ltW2:g2<W6.heap.size:=by omega
        have ltW0:g0<W6.heap.size:=by omega
        have hiW1a:W1.heap.size≤W6.heap.size:=by omega
        have hiW6a:W6.heap.size≤W6.heap.size:=by omega
        clear lu0 lb0 hs2 lu1 lb1 nb1_2a hs3 hs4 hs5 lu2 lb2 nb2_6a
        clear B6_1 HOm6_2a
        have z0_2_0:W6.cell? ⟨g2,0,none⟩=some (.int .i64 x6a_0):=cu B6_2 rfl
        have z0_2_1:W6.cell? ⟨g2,1,none⟩=some (.int .i64 x6a_1):=cu B6_2 rfl
        have z0_2_2:W6.cell? ⟨g2,2,none⟩=some (.string x6a_2):=cu B6_2 rfl
        have z0_2_3:W6.cell? ⟨g2,3,none⟩=some (.slice x6a_3A x6a_3l.length x6a_3c):=cu B6_2 rfl
        have z0_0_0:W6.cell? ⟨g0,0,none⟩=some (.int .i64 x1a_0):=cu B6_0 rfl
        have z0_0_1:W6.cell? ⟨g0,1,none⟩=some (.int .i64 x1a_1):=cu B6_0 rfl
        have z0_0_2:W6.cell? ⟨g0,2,none⟩=some (.string x1a_2):=cu B6_0 rfl
        have z0_0_3:W6.cell? ⟨g0,3,none⟩=some (.slice x1a_3A x1a_3l.length x1a_3c):=cu B6_0 rfl
        go_wp2_with fail
        go_at_call 14
        refine (mJ HT6a.out HT1a.out ((show (E.agg [.int .i64 x6a_0,.int .i64 x6a_1,.str x6a_2,.lst 4 26 x6a_3A x6a_3c x6a_3l]).d=pxD a0 from HD6a.out).trans (show (E.agg [.int .i64 x1a_0,.int .i64 x1a_1,.str x1a_2,.lst 4 26 x1a_3A x1a_3c x1a_3l]).d=pxD a0 from HD1a.out).symm) _ (by have h:(E.agg [.int .i64 x6a_0,.int .i64 x6a_1,.str x6a_2,.lst 4 26 x6a_3A x6a_3c x6a_3l]).In W6:=HO6_6a.out.inn;exact by3) (by have h:(E.agg [.int .i64 x1a_0,.int .i64 x1a_1,.str x1a_2,.lst 4 26 x1a_3A x1a_3c x1a_3l]).In W6:=I6_1a.inn omq;exact by3)).mono ?_;rintro e w7 ⟨rfl,hb7⟩;have hz7:=hb7.size;(try simp only [World.size_alloc,World.size_drew,World.heap_drewN,World.size_setCell] at hz7)
        go_wp2_with fail
        go_meet
        refine⟨rfl,?_⟩
        ·exact by0
       case rest =>
        obtain⟨rfl,hb7⟩:=hcut
        obtain⟨W7,hWeq⟩:∃W:World,W=wc:=⟨_,rfl⟩
        subst hWeq
        have hs7:=hb7.size
        have B7_0:=(hb7.block g0 omq).trans B6_0
        clear B6_0
        have B7_1:=(hb7.block g1 omq).trans B6_1
        clear B6_1
        have B7_2:=(hb7.block g2 omq).trans B6_2
        clear B6_2
        have I7_1a:=I6_1a.below hb7 omq
        clear I6_1a
        have HOm7_2a:=Lib.hid (HOm6_2a.out.below hb7 omq)
        clear HOm6_2a
        have HO7_6a:=Lib.hid (HO6_6a.out.below hb7 omq)
        clear HO6_6a
        have hB7:Below w.heap.size w W7:=hB6.trans (hb7.mono omq)
        go_upto_region 19 with fail
        go_cut [8] (fun s8 wx=>s8=.int .i64 (1+((E.agg [.int .i64 x2a_0,.int .i64 x2a_1,.str x2a_2,.lst 4 26 x2a_3A x2a_3c x2a_3l]).cnt:Int))∧Below W7.heap.size W7 wx)
        case first =>
         have hwW:=hB7.size
         have ltW1:g1<W7.heap.size:=by omega
         have hiW2a:W2.heap.size≤W7.heap.size:=by omega
         clear hs1 lu0 lb0 lu1 lb1 nb1_2a hs3 hs4 hs5 hs6 lu2 lb2 nb2_6a hs7
         clear B7_0 B7_2 I7_1a HO7_6a
         have z0_1_0:W7.cell? ⟨g1,0,none⟩=some (.int .i64 x2a_0):=cu B7_1 rfl
         have z0_1_1:W7.cell? ⟨g1,1,none⟩=some (.int .i64 x2a_1):=cu B7_1 rfl
         have z0_1_2:W7.cell? ⟨g1,2,none⟩=some (.string x2a_2):=cu B7_1 rfl
         have z0_1_3:W7.cell? ⟨g1,3,none⟩=some (.slice x2a_3A x2a_3l.length x2a_3c):=cu B7_1 rfl
         go_wp2_with fail
         go_at_call 16
         refine (jQ HT2a.out _ _ (by have h:((E.agg [.int .i64 x2a_0,.int .i64 x2a_1,.str x2a_2,.lst 4 26 x2a_3A x2a_3c x2a_3l]).mk0 1).In W7:=HOm7_2a.out.inn;exact by3) omq (by have:=uo HT2a.out HD2a (xW);omega)).mono ?_;rintro e w8 ⟨rfl,hb8⟩
         go_wp2_with fail
         go_meet
         refine⟨rfl,?_⟩
         ·exact by0
        case rest =>
         obtain⟨rfl,hb8⟩:=hcut
         obtain⟨W8,hWeq⟩:∃W:World,W=wc:=⟨_,rfl⟩
         subst hWeq
         have hs8:=hb8.size
         have B8_0:=(hb8.block g0 omq).trans B7_0
         clear B7_0
         have B8_1:=(hb8.block g1 omq).trans B7_1
         clear B7_1
         have B8_2:=(hb8.block g2 omq).trans B7_2
         clear B7_2
         have I8_1a:=I7_1a.below hb8 omq
         clear I7_1a
         have HOm8_2a:=Lib.hid (HOm7_2a.out.below hb8 omq)
         clear HOm7_2a
         have HO8_6a:=Lib.hid (HO7_6a.out.below hb8 omq)
         clear HO7_6a
         have hB8:Below w.heap.size w W8:=hB7.trans (hb8.mono omq)
         go_wp2
         go_ret
         exact⟨rfl,hB8⟩
end Go.Proofs.YtomolhbkdhjofaaGreatDoor
