/- T -/
import Derived.Test.YtomolhbkdhjofaaGreatDoorParXAO
set_option maxHeartbeats 0
set_option maxRecDepth 100000
namespace Go.Proofs.YtomolhbkdhjofaaGreatDoor
open Go.RowKit Go.Proofs.Tryz
section
variable {ops:Array Oper}{Q:Exit→Act→World→Prop}{C:Ctx}{H:List (Nat×Oper×Inf)}{i:Nat}{r:List Nat}{dr:Bool}
variable {tm:Nat→AV}{hp:Nat→Option Row}{gn L:Nat}{us:List Nat}
theorem zy7 {P:Program}{o:Oper}{T ty:TypeId}{xo:Operand}(ho:o.op=.binOp .neq T xo (.const .nilIface) ty)(hT:P.isIface T=true)(ev:Operand→Value)(w:World)(hx:ev xo=.nilIface)(hy:ev (.const .nilIface)=.nilIface):(execOp ev o).run P w=.ok (.value (.bool false)) w:=by
 unfold execOp
 rw [ho]
 simp only [hx,hy]
 simp [Sem.run_bind,eqGuard,run_neq_nil_nil_at w T hT]
theorem o_n0 {t:Nat}{gd:Option (Nat×Bool)}{ps:String}{af:Array Edge}{ty ty':TypeId}{xo:Operand}(h:Walk prog ops Q C dr (bE dr (i,(⟨some t,.binOp .neq 83 xo (.const .nilIface) ty',ty,ps,af,gd⟩:Oper),⟨fpO (AS.ev ⟨tm,hp,gn,us,L⟩) (⟨some t,.binOp .neq 83 xo (.const .nilIface) ty',ty,ps,af,gd⟩:Oper),[],[],.c (.v (.bool false))⟩) H) r ⟨upd tm t (.c (.v (.bool false))),hp,gn,us,L⟩)
 (ht:Nat.blt t L=true:=by exact rfl) (hg:gw ops tm (⟨some t,.binOp .neq 83 xo (.const .nilIface) ty',ty,ps,af,gd⟩:Oper)=some true:=by exact rfl) (hx:AS.ev ⟨tm,hp,gn,us,L⟩ xo=.c (.v .nilIface):=by exact rfl)
 (hc:chk dr ops i (⟨some t,.binOp .neq 83 xo (.const .nilIface) ty',ty,ps,af,gd⟩:Oper) ⟨fpO (AS.ev ⟨tm,hp,gn,us,L⟩) (⟨some t,.binOp .neq 83 xo (.const .nilIface) ty',ty,ps,af,gd⟩:Oper),[],[],.c (.v (.bool false))⟩ H=true:=by first|(with_reducible exact bp)|kernel_rfl):WalkO prog ops Q C dr H i (⟨some t,.binOp .neq 83 xo (.const .nilIface) ty',ty,ps,af,gd⟩:Oper) r ⟨tm,hp,gn,us,L⟩:=⟨fun hop=>by
 refine⟨_,_,hop,nJ (y:=.bool false) hop hg rfl fun ev w he=>?_,fun n hn=>absurd hn List.not_mem_nil,d4 hc,cD ?_⟩
 ·have key:∀o'∈#[xo,(.const .nilIface:Operand)],(AS.ev ⟨tm,hp,gn,us,L⟩ o'=.c (.v .nilIface))→ev o'=.nilIface:=fun o' ho' hv=>by
   obtain⟨St,φ,K,h1⟩:=he o' ho'
   rw [hv] at h1
   simp only [VR,CR] at h1
   exact h1.1
  exact zy7 rfl (by kernel_rfl) ev w (key xo (by simp) hx) (key _ (by simp) rfl)
 ·show Walk prog ops Q C dr _ r (AS.put _ (some t) _)
  rw [dM (by exact dK ht)];exact h⟩
end
theorem zz7 {s:ByteArray}(hs:s.size≤1048576)(h0:0<s.size)(h47:bAt s 0=47):Ctr prog 40 [.c (.v (.string s)),.c (.v (.bool true))] [] (.tu [.ag [.v (.int .i64 (gD s true).k),.v (.int .i64 (gD s true).n),.v (.string (gD s true).s)],.c (.v (.int .i64 ((gD s true).e:Int)))]) []:=by
 have ce:=mL hs h0
 rw [tok_R h47]
 rw [h47] at ce
 have hr:=bG (p:=neB 47) (s:=s) s.size 1 omq omq
 have g1:=hr.1
 have g2:=hr.2.1
 clear hr
 generalize bD (neB 47) s s.size 1=e at ce g1 g2 ⊢
 by_cases he:e=s.size
 ·rw [if_pos he] at ce ⊢
  refine ay func40 rfl rfl ?_
  repeat' (first|(apply av;first|(refine aK ?_ ?_<;>intro hG<;>(try cases hG))|refine ak ?_|refine ai ?_|refine aW ?_|refine aA ?_|refine bI ?_|refine cb ?_)|refine aj ?_|refine ab ?_|refine aa fun C=>?_|refine ac ?_|refine ah ?_)
  refine ae (by rfl) (fun hC=>?_) fun hC=>by exfalso;simp at hC;omega
  repeat' (first|(apply av;first|refine bC ?_|(refine aK ?_ ?_<;>intro hG<;>(try cases hG))|refine ak ?_|refine dI (v:=.tu _) ?_|refine ai ?_|refine dp ce ?_|refine bg ?_|refine bM ?_|refine aA ?_|refine cK ?_|refine az ?_)|refine aj ?_|refine ab ?_|refine aa fun C=>?_|refine ac ?_|refine aq rfl ?_)
  exact rtq6
 ·rw [if_neg he] at ce ⊢
  have hz:=bO (s:=s) (a:=1) (b:=e) g1 g2
  have cr:=qp (s:=bk s 1 e) omq
  cases hb:decide (1≤(bk s 1 e).size)&&dj 47 (bk s 1 e) with
  | false =>
   rw [hb] at cr
   rw [if_neg (by simp)]
   refine ay func40 rfl rfl ?_
   repeat' (first|(apply av;first|(refine aK ?_ ?_<;>intro hG<;>(try cases hG))|refine ak ?_|refine ai ?_|refine aW ?_|refine aA ?_|refine bI ?_|refine cb ?_)|refine aj ?_|refine ab ?_|refine aa fun C=>?_|refine ac ?_|refine ah ?_)
   refine ae (by rfl) (fun hC=>?_) fun hC=>by exfalso;simp at hC;omega
   repeat' (first|(apply av;first|(refine aK ?_ ?_<;>intro hG<;>(try cases hG))|refine ak ?_|refine dI (v:=.tu _) ?_|refine ai ?_|refine dp ce ?_|refine aG cr ?_|refine bg ?_|refine bM ?_|refine aA ?_|refine cK ?_|refine az ?_)|refine aj ?_|refine ab ?_|refine aa fun C=>?_|refine ac ?_|refine aq rfl ?_)
   exact rtq6
  | true =>
   rw [hb] at cr
   rw [if_pos rfl]
   have he1:((e+1:Nat):Int)=((bk s 1 e).size:Int)+2:=by omega
   rw [he1]
   refine ay func40 rfl rfl ?_
   repeat' (first|(apply av;first|(refine aK ?_ ?_<;>intro hG<;>(try cases hG))|refine ak ?_|refine ai ?_|refine aW ?_|refine aA ?_|refine bI ?_|refine cb ?_)|refine aj ?_|refine ab ?_|refine aa fun C=>?_|refine ac ?_|refine ah ?_)
   refine ae (by rfl) (fun hC=>?_) fun hC=>by exfalso;simp at hC;omega
   repeat' (first|(apply av;first|(refine aK ?_ ?_<;>intro hG<;>(try cases hG))|refine ak ?_|refine dI (v:=.tu _) ?_|refine ai ?_|refine dp ce ?_|refine aG cr ?_|refine be ?_|refine bg ?_|refine aw ?_|refine bM ?_|refine aA ?_|refine cK ?_|refine az ?_)|refine aj ?_|refine ab ?_|refine aa fun C=>?_|refine ac ?_|refine al ?_|refine ar rfl ?_)
   exact rtq6
theorem za8 {s:ByteArray}(hs:s.size≤1048576)(h0:0<s.size)(h39:bAt s 0=39)(rex:Bool):Ctr prog 40 [.c (.v (.string s)),.c (.v (.bool rex))] [] (.tu [.ag [.v (.int .i64 (gD s rex).k),.v (.int .i64 (gD s rex).n),.v (.string (gD s rex).s)],.c (.v (.int .i64 ((gD s rex).e:Int)))]) []:=by
 have ce:=mL hs h0
 have cd:=fm (bAt s 0)
 have cl:=fZ (bAt s 0)
 rw [show cF (bAt s 0)=false by simp [cF];omega] at cd
 rw [show gC (bAt s 0)=false by simp [gC];omega] at cl
 rw [tok_Q h39]
 rw [h39] at ce
 have hr:=bG (p:=neB 39) (s:=s) s.size 1 omq omq
 have g1:=hr.1
 have g2:=hr.2.1
 clear hr
 generalize bD (neB 39) s s.size 1=e at ce g1 g2 ⊢
 by_cases he:e=s.size
 ·rw [if_pos he] at ce ⊢
  cases rex<;>refine ay func40 rfl rfl ?_
  all_goals
   repeat' (first|(apply av;first|refine bC ?_|(refine aK ?_ ?_<;>intro hG<;>(try cases hG))|refine ak ?_|refine dI (v:=.tu _) ?_|refine ai ?_|refine dp ce ?_|refine aG cd ?_|refine aG cl ?_|refine bg ?_|refine aW ?_|refine bM ?_|refine aA ?_|refine cK ?_|refine bI ?_|refine cb ?_|refine az ?_)|refine aj ?_|refine ab ?_|refine aa fun C=>?_|refine ac ?_|refine ah ?_|refine al ?_|(refine ae (by rfl) ?_ ?_<;>intro hC<;>(try cases hC)))
   all_goals first
    | (exfalso;simp only [beq_iff_eq,beq_eq_false_iff_ne,ne_eq] at *;omega)
    | (refine am ?_;refine bv rfl (bS (aD (bh (aS rfl (aS rfl (aS rfl aV)))) (aD aJ bc))) ⟨?_,rfl⟩;rfl)
 ·rw [if_neg he] at ce ⊢
  have hz:=bO (s:=s) (a:=1) (b:=e) g1 g2
  have cr:=rO (s:=bk s 1 e) omq
  cases hb:dj 39 (bk s 1 e) with
  | false =>
   rw [hb] at cr
   rw [if_neg (by simp)]
   cases rex<;>refine ay func40 rfl rfl ?_
   all_goals
    repeat' (first|(apply av;first|refine bC ?_|(refine aK ?_ ?_<;>intro hG<;>(try cases hG))|refine ak ?_|refine dI (v:=.tu _) ?_|refine ai ?_|refine dp ce ?_|refine aG cd ?_|refine aG cl ?_|refine aG cr ?_|refine bg ?_|refine aW ?_|refine bM ?_|refine aA ?_|refine cK ?_|refine bI ?_|refine cb ?_|refine az ?_)|refine aj ?_|refine ab ?_|refine aa fun C=>?_|refine ac ?_|refine ah ?_|refine al ?_|(refine ae (by rfl) ?_ ?_<;>intro hC<;>(try cases hC)))
    all_goals first
     | (exfalso;simp only [beq_iff_eq,beq_eq_false_iff_ne,ne_eq] at *;omega)
     | (refine am ?_;refine bv rfl (bS (aD (bh (aS rfl (aS rfl (aS rfl aV)))) (aD aJ bc))) ⟨?_,rfl⟩;rfl)
  | true =>
   rw [hb] at cr
   rw [if_pos rfl]
   have he1:((e+1:Nat):Int)=((bk s 1 e).size:Int)+2:=by omega
   rw [he1]
   cases rex<;>refine ay func40 rfl rfl ?_
   all_goals
    repeat' (first|(apply av;first|refine bC ?_|(refine aK ?_ ?_<;>intro hG<;>(try cases hG))|refine ak ?_|refine dI (v:=.tu _) ?_|refine ai ?_|refine dp ce ?_|refine aG cd ?_|refine aG cl ?_|refine aG cr ?_|refine be ?_|refine bg ?_|refine aW ?_|refine aw ?_|refine bM ?_|refine aA ?_|refine cK ?_|refine bI ?_|refine cb ?_|refine az ?_)|refine aj ?_|refine ab ?_|refine aa fun C=>?_|refine ac ?_|refine ah ?_|refine al ?_|(refine ae (by rfl) ?_ ?_<;>intro hC<;>(try cases hC)))
    all_goals first
     | (exfalso;simp only [beq_iff_eq,beq_eq_false_iff_ne,ne_eq] at *;omega)
     | (refine am ?_;refine bv rfl (bS (aD (bh (aS rfl (aS rfl (aS rfl aV)))) (aD aJ bc))) ⟨?_,rfl⟩;rfl)
theorem zb8 {s:ByteArray}(hs:s.size≤1048576)(h0:0<s.size)(rex:Bool)(h1:cF (bAt s 0)=false)(h2:gC (bAt s 0)=false)(h3:bAt s 0≠39)(h4:¬(bAt s 0=47∧rex=true)):Ctr prog 40 [.c (.v (.string s)),.c (.v (.bool rex))] [] (.tu [.ag [.v (.int .i64 (gD s rex).k),.v (.int .i64 (gD s rex).n),.v (.string (gD s rex).s)],.c (.v (.int .i64 ((gD s rex).e:Int)))]) []:=by
 have cd:=fm (bAt s 0)
 have cl:=fZ (bAt s 0)
 have cm:=yY hs
 rw [tok_M h0 h1 h2 h3 h4]
 rw [h1] at cd
 rw [h2] at cl
 cases rex with
 | false =>
  refine ay func40 rfl rfl ?_
  repeat' (first|(apply av;first|refine bC ?_|(refine aK ?_ ?_<;>intro hG<;>(try cases hG))|refine ak ?_|refine ai ?_|refine aG cd ?_|refine aG cl ?_|refine aG cm ?_|refine be ?_|refine bg ?_|refine aW ?_|refine aA ?_|refine bI ?_|refine cb ?_|refine az ?_)|refine aj ?_|refine ab ?_|refine aa fun C=>?_|refine ac ?_|refine ah ?_|refine al ?_|(refine ae (by rfl) ?_ ?_<;>intro hC<;>(try cases hC)))
  all_goals first
   | (exfalso;simp only [beq_iff_eq,beq_eq_false_iff_ne,ne_eq] at *;omega)
   | (refine am ?_;refine bv rfl (bS (aD (bh (aS rfl (aS rfl (aS rfl aV)))) (aD aJ bc))) ⟨?_,rfl⟩;rfl)
 | true =>
  have h5:bAt s 0≠47:=fun h=>h4 ⟨h,rfl⟩
  refine ay func40 rfl rfl ?_
  repeat' (first|(apply av;first|(refine aK ?_ ?_<;>intro hG<;>(try cases hG))|refine ak ?_|refine ai ?_|refine aG cd ?_|refine aG cl ?_|refine aG cm ?_|refine be ?_|refine bg ?_|refine aW ?_|refine aA ?_|refine bI ?_|refine cb ?_|refine az ?_)|refine aj ?_|refine ab ?_|refine aa fun C=>?_|refine ac ?_|refine ah ?_|refine al ?_|(refine ae (by rfl) ?_ ?_<;>intro hC<;>(try cases hC)))
  all_goals first
   | (exfalso;simp only [beq_iff_eq,beq_eq_false_iff_ne,ne_eq] at *;omega)
   | (refine am ?_;refine bv rfl (bS (aD (bh (aS rfl (aS rfl (aS rfl aV)))) (aD aJ bc))) ⟨?_,rfl⟩;rfl)
theorem zc8 {s:ByteArray}(hs:s.size≤1048576)(h0:0<s.size)(rex:Bool)(h2:gC (bAt s 0)=true):Ctr prog 40 [.c (.v (.string s)),.c (.v (.bool rex))] [] (.tu [.ag [.v (.int .i64 (gD s rex).k),.v (.int .i64 (gD s rex).n),.v (.string (gD s rex).s)],.c (.v (.int .i64 ((gD s rex).e:Int)))]) []:=by
 have cd:=fm (bAt s 0)
 have cl:=fZ (bAt s 0)
 have cw:=jX hs
 have h5:bAt s 0≠47:=by simp [gC] at h2;omega
 rw [tok_L h0 h2]
 rw [qy h2] at cd
 rw [h2] at cl
 have hr:=bG (p:=ldB) (s:=s) s.size 0 omq omq
 have g2:=hr.2.1
 clear hr
 generalize bD ldB s s.size 0=e at cw g2 ⊢
 by_cases he:e≤8
 ·rw [if_pos he]
  cases rex<;>refine ay func40 rfl rfl ?_
  all_goals
   repeat' (first|(apply av;first|refine bC ?_|(refine aK ?_ ?_<;>intro hG<;>(try cases hG))|refine ak ?_|refine ai ?_|refine aG cd ?_|refine aG cl ?_|refine aG cw ?_|refine bg ?_|refine aW ?_|refine bu ?_|refine aA ?_|refine bI ?_|refine cb ?_|refine jx ?_|refine az ?_)|refine aj ?_|refine ab ?_|refine aa fun C=>?_|refine ac ?_|refine ah ?_|refine al ?_|(refine ae (by rfl) ?_ ?_<;>intro hC<;>(try cases hC)))
   all_goals first
    | (exfalso;simp only [beq_iff_eq,beq_eq_false_iff_ne,ne_eq,decide_eq_true_iff,decide_eq_false_iff_not] at *;omega)
    | (refine am ?_;refine bv rfl (bS (aD (bh (aS rfl (aS rfl (aS rfl aV)))) (aD aJ bc))) ⟨?_,rfl⟩;rfl)
 ·rw [if_neg he]
  cases rex<;>refine ay func40 rfl rfl ?_
  all_goals
   repeat' (first|(apply av;first|refine bC ?_|(refine aK ?_ ?_<;>intro hG<;>(try cases hG))|refine ak ?_|refine ai ?_|refine aG cd ?_|refine aG cl ?_|refine aG cw ?_|refine bg ?_|refine aW ?_|refine bu ?_|refine aA ?_|refine bI ?_|refine cb ?_|refine jx ?_|refine az ?_)|refine aj ?_|refine ab ?_|refine aa fun C=>?_|refine ac ?_|refine ah ?_|refine al ?_|(refine ae (by rfl) ?_ ?_<;>intro hC<;>(try cases hC)))
   all_goals first
    | (exfalso;simp only [beq_iff_eq,beq_eq_false_iff_ne,ne_eq,decide_eq_true_iff,decide_eq_false_iff_not] at *;omega)
    | (refine am ?_;refine bv rfl (bS (aD (bh (aS rfl (aS rfl (aS rfl aV)))) (aD aJ bc))) ⟨?_,rfl⟩;rfl)
theorem zd8 {s:ByteArray}(hs:s.size≤1048576)(h0:0<s.size)(rex:Bool)(h1:cF (bAt s 0)=true):Ctr prog 40 [.c (.v (.string s)),.c (.v (.bool rex))] [] (.tu [.ag [.v (.int .i64 (gD s rex).k),.v (.int .i64 (gD s rex).n),.v (.string (gD s rex).s)],.c (.v (.int .i64 ((gD s rex).e:Int)))]) []:=by
 have cd:=fm (bAt s 0)
 rw [tok_D h0 h1]
 rw [h1] at cd
 have h5:bAt s 0≠47:=by simp [cF] at h1;omega
 have hst:=(eI h0 h1).2
 have hall:=vX (s:=s)
 cases rex<;>refine ay func40 rfl rfl ?_
 case' true =>
  repeat' (first|(apply av;first|(refine aK ?_ ?_<;>intro hG<;>(try cases hG))|refine ak ?_|refine ai ?_|refine aW ?_|refine aA ?_|refine bI ?_|refine cb ?_)|refine aj ?_|refine ab ?_|refine aa fun C=>?_|refine ac ?_|refine ah ?_)
  refine ae (by rfl) (fun hC=>by exfalso;simp at hC;omega) fun hC=>?_
  repeat' (first|(apply av;first|refine ak ?_|refine ai ?_|refine aG cd ?_)|refine aj ?_|refine ab ?_|refine aa fun C=>?_|refine ac ?_|refine ah ?_|refine aq rfl ?_)
 case' false =>
  repeat' (first|(apply av;first|refine bC ?_|(refine aK ?_ ?_<;>intro hG<;>(try cases hG))|refine ak ?_|refine ai ?_|refine aG cd ?_|refine aA ?_|refine bI ?_|refine cb ?_)|refine aj ?_|refine ab ?_|refine aa fun C=>?_|refine ac ?_|refine ah ?_|refine aq rfl ?_|refine ar rfl ?_)
 all_goals
  refine aZ (fun k:Nat=>⟨e8 [(0,.c (.v (.string s))),(4,.c (.pt 4 0)),(9,.c (.v (.int .i64 (k:Int))))],eT [(4,4,⟨63,0,0,true,[.v (.int .i64 0),.v (.int .i64 0),.v (.string ⟨#[]⟩)]⟩)],0,[4],122⟩)
   (fun N k=>k+N=s.size∧bD cF s s.size 0=bD cF s N k) s.size 0 ⟨omq,rfl⟩ ?_ ?_
  ·show Gh _ _
   (refine aN _ _ rfl rfl ?_ ?_<;>exact tdy1)
  rintro N k ⟨hN,hr⟩
  try dsimp only
  clear cd
  have c2:=fm (bAt s k)
  by_cases hk:k<s.size∧cF (bAt s k)=true
  ·obtain⟨M,rfl⟩:∃M,N=M+1:=⟨N-1,omq⟩
   obtain⟨hk,hd⟩:=hk
   rw [hd] at c2
   have hq:bD cF s s.size 0=bD cF s M (k+1):=by rw [hr,fN hk hd]
   clear hr
   repeat' (first|(apply av;first|refine bC ?_|(refine aK ?_ ?_<;>intro hG<;>(try cases hG))|refine ak ?_|refine ai ?_|refine aG c2 ?_|refine be ?_|refine aE ?_|refine aw ?_|refine aA ?_|refine cb ?_|refine jx ?_)|refine aj ?_|refine ab ?_|refine aa fun C=>?_|refine ac ?_|refine ah ?_|refine al ?_|refine aB ?_|(refine ae (by rfl) ?_ ?_<;>intro hC<;>(try cases hC)))
   all_goals first
    | (exfalso;simp only [decide_eq_true_iff,decide_eq_false_iff_not] at *;omega)
    | (refine⟨M,k+1,omq,⟨omq,hq⟩,?_⟩;show Gh _ _;(refine aN _ _ rfl rfl ?_ ?_<;>(repeat' (first|exact TmOk.nil|exact RwOk.nil|refine TmOk.cons ?_ ?_|refine RwOk.cons ?_ ?_|rfl|exact bf rfl (by assumption)|exact bf rfl (bytC_cloB _)|(refine rnV_id' rfl ?_;exact byc)|(refine cE ?_;first|rfl|omega|(rw [bA omq omq];omega))|(refine bf rfl ?_;exact byc)|exact dH rfl rfl|(refine rw_mid (by rfl) (by rfl) ?_ ?_<;>exact byc)|(refine rw_rn' rfl rfl ?_;simp;done)))))
  ·have hn:bD cF s s.size 0=k:=by rw [hr,eW hk]
   clear hr
   rw [hn] at hst hall ⊢
   have hkz:k≤s.size:=by omega
   have hz:=bO (s:=s) (a:=0) (b:=k) omq hkz
   have hv0:(0:Int)≤(ky (bk s 0 k):Int):=by omega
   by_cases hv:ky (bk s 0 k)<9223372036854775808
   ·have ca:=zz3 hall omq omq hv
    have ci:=oV (n:=(ky (bk s 0 k):Int)) omq omq
    generalize ky (bk s 0 k)=v at *
    by_cases hm:v≤2147483647
    ·cases he:(i6 (v:Int)).toList==(bk s 0 k).toList with
     | true =>
      have he2:=he
      rw [bytes_beq,decide_eq_true_iff] at he2
      rw [if_pos ⟨hm,he2⟩]
      by_cases hk2:k<s.size
      ·have hd:cF (bAt s k)=false:=by
        cases hd:cF (bAt s k) with
        | false=>rfl
        | true=>exact absurd ⟨hk2,hd⟩ hk
       rw [hd] at c2
       repeat' (first|(apply dc;refine o_n0 ?_)|(apply av;first|refine bC ?_|(refine aK ?_ ?_<;>intro hG<;>(try cases hG))|refine ak ?_|refine dI (v:=.tu _) ?_|refine ai ?_|refine aG c2 ?_|refine dp ca ?_|refine be ?_|refine bg ?_|refine aE ?_|refine aA ?_|refine cK ?_|refine cb ?_|refine jx ?_|refine az ?_)|refine aj ?_|refine ab ?_|(apply dc;first|refine fE ?_|(refine fB ?_ ?_<;>intro hG<;>(try cases hG))|(apply dx;refine aH ?_)|refine eG ci ?_|(apply fD;refine aH ?_)|refine qk ?_|refine aH ?_)|refine aj ?_|refine ab ?_|refine aa fun C=>?_|refine au (by kernel_rfl) (by kernel_rfl) fun C=>?_|refine ac ?_|refine al ?_|refine aB ?_|(refine ae (by rfl) ?_ ?_<;>intro hC<;>(try cases hC)))
       all_goals first
        | (exfalso;rw [bne,he] at hG;cases hG;done)
        | (exfalso;rw [he] at hC;cases hC;done)
        | (exfalso;simp only [decide_eq_true_iff,decide_eq_false_iff_not] at *;omega)
        | (refine am ?_;refine bv rfl (bS (aD (bh (aS rfl (aS rfl (aS rfl aV)))) (aD aJ bc))) ⟨?_,rfl⟩;rfl)
      ·repeat' (first|(apply dc;refine o_n0 ?_)|(apply av;first|refine bC ?_|(refine aK ?_ ?_<;>intro hG<;>(try cases hG))|refine ak ?_|refine dI (v:=.tu _) ?_|refine ai ?_|refine aG c2 ?_|refine dp ca ?_|refine be ?_|refine bg ?_|refine aE ?_|refine aw ?_|refine aA ?_|refine cK ?_|refine cb ?_|refine jx ?_|refine az ?_)|refine aj ?_|refine ab ?_|(apply dc;first|refine fE ?_|(refine fB ?_ ?_<;>intro hG<;>(try cases hG))|(apply dx;refine aH ?_)|refine eG ci ?_|(apply fD;refine aH ?_)|refine qk ?_|refine aH ?_)|refine aj ?_|refine ab ?_|refine aa fun C=>?_|refine au (by kernel_rfl) (by kernel_rfl) fun C=>?_|refine ac ?_|refine ah ?_|refine al ?_|refine aB ?_|(refine ae (by rfl) ?_ ?_<;>intro hC<;>(try cases hC)))
       all_goals first
        | (exfalso;rw [bne,he] at hG;cases hG;done)
        | (exfalso;rw [he] at hC;cases hC;done)
        | (exfalso;simp only [decide_eq_true_iff,decide_eq_false_iff_not] at *;omega)
        | (refine am ?_;refine bv rfl (bS (aD (bh (aS rfl (aS rfl (aS rfl aV)))) (aD aJ bc))) ⟨?_,rfl⟩;rfl)
     | false =>
      have he2:=he
      rw [bytes_beq,decide_eq_false_iff_not] at he2
      rw [if_neg fun h=>he2 h.2]
      by_cases hk2:k<s.size
      ·have hd:cF (bAt s k)=false:=by
        cases hd:cF (bAt s k) with
        | false=>rfl
        | true=>exact absurd ⟨hk2,hd⟩ hk
       rw [hd] at c2
       repeat' (first|(apply dc;refine o_n0 ?_)|(apply av;first|refine bC ?_|(refine aK ?_ ?_<;>intro hG<;>(try cases hG))|refine ak ?_|refine dI (v:=.tu _) ?_|refine ai ?_|refine aG c2 ?_|refine dp ca ?_|refine be ?_|refine bg ?_|refine aE ?_|refine aA ?_|refine cK ?_|refine cb ?_|refine jx ?_|refine az ?_)|refine aj ?_|refine ab ?_|(apply dc;first|refine fE ?_|(refine fB ?_ ?_<;>intro hG<;>(try cases hG))|(apply dx;refine aH ?_)|refine eG ci ?_|(apply fD;refine aH ?_)|refine qk ?_|refine aH ?_)|refine aj ?_|refine ab ?_|refine aa fun C=>?_|refine au (by kernel_rfl) (by kernel_rfl) fun C=>?_|refine ac ?_|refine al ?_|refine aB ?_|(refine ae (by rfl) ?_ ?_<;>intro hC<;>(try cases hC)))
       all_goals first
        | (exfalso;rw [bne,he] at hG;cases hG;done)
        | (exfalso;rw [he] at hC;cases hC;done)
        | (exfalso;simp only [decide_eq_true_iff,decide_eq_false_iff_not] at *;omega)
        | (refine am ?_;refine bv rfl (bS (aD (bh (aS rfl (aS rfl (aS rfl aV)))) (aD aJ bc))) ⟨?_,rfl⟩;rfl)
      ·repeat' (first|(apply dc;refine o_n0 ?_)|(apply av;first|refine bC ?_|(refine aK ?_ ?_<;>intro hG<;>(try cases hG))|refine ak ?_|refine dI (v:=.tu _) ?_|refine ai ?_|refine aG c2 ?_|refine dp ca ?_|refine be ?_|refine bg ?_|refine aE ?_|refine aw ?_|refine aA ?_|refine cK ?_|refine cb ?_|refine jx ?_|refine az ?_)|refine aj ?_|refine ab ?_|(apply dc;first|refine fE ?_|(refine fB ?_ ?_<;>intro hG<;>(try cases hG))|(apply dx;refine aH ?_)|refine eG ci ?_|(apply fD;refine aH ?_)|refine qk ?_|refine aH ?_)|refine aj ?_|refine ab ?_|refine aa fun C=>?_|refine au (by kernel_rfl) (by kernel_rfl) fun C=>?_|refine ac ?_|refine ah ?_|refine al ?_|refine aB ?_|(refine ae (by rfl) ?_ ?_<;>intro hC<;>(try cases hC)))
       all_goals first
        | (exfalso;rw [bne,he] at hG;cases hG;done)
        | (exfalso;rw [he] at hC;cases hC;done)
        | (exfalso;simp only [decide_eq_true_iff,decide_eq_false_iff_not] at *;omega)
        | (refine am ?_;refine bv rfl (bS (aD (bh (aS rfl (aS rfl (aS rfl aV)))) (aD aJ bc))) ⟨?_,rfl⟩;rfl)
    ·rw [if_neg fun h=>hm h.1]
     by_cases hk2:k<s.size
     ·have hd:cF (bAt s k)=false:=by
       cases hd:cF (bAt s k) with
       | false=>rfl
       | true=>exact absurd ⟨hk2,hd⟩ hk
      rw [hd] at c2
      repeat' (first|(apply dc;refine o_n0 ?_)|(apply av;first|refine bC ?_|(refine aK ?_ ?_<;>intro hG<;>(try cases hG))|refine ak ?_|refine dI (v:=.tu _) ?_|refine ai ?_|refine aG c2 ?_|refine dp ca ?_|refine be ?_|refine bg ?_|refine aE ?_|refine aA ?_|refine cK ?_|refine cb ?_|refine jx ?_|refine az ?_)|refine aj ?_|refine ab ?_|(apply dc;first|refine fE ?_|(refine fB ?_ ?_<;>intro hG<;>(try cases hG))|(apply dx;refine aH ?_)|refine eG ci ?_|(apply fD;refine aH ?_)|refine qk ?_|refine aH ?_)|refine aj ?_|refine ab ?_|refine aa fun C=>?_|refine au (by kernel_rfl) (by kernel_rfl) fun C=>?_|refine ac ?_|refine al ?_|refine aB ?_|(refine ae (by rfl) ?_ ?_<;>intro hC<;>(try cases hC)))
      all_goals first
       | (exfalso;simp only [decide_eq_true_iff,decide_eq_false_iff_not] at *;omega)
       | (refine am ?_;refine bv rfl (bS (aD (bh (aS rfl (aS rfl (aS rfl aV)))) (aD aJ bc))) ⟨?_,rfl⟩;rfl)
     ·repeat' (first|(apply dc;refine o_n0 ?_)|(apply av;first|refine bC ?_|(refine aK ?_ ?_<;>intro hG<;>(try cases hG))|refine ak ?_|refine dI (v:=.tu _) ?_|refine ai ?_|refine aG c2 ?_|refine dp ca ?_|refine be ?_|refine bg ?_|refine aE ?_|refine aw ?_|refine aA ?_|refine cK ?_|refine cb ?_|refine jx ?_|refine az ?_)|refine aj ?_|refine ab ?_|(apply dc;first|refine fE ?_|(refine fB ?_ ?_<;>intro hG<;>(try cases hG))|(apply dx;refine aH ?_)|refine eG ci ?_|(apply fD;refine aH ?_)|refine qk ?_|refine aH ?_)|refine aj ?_|refine ab ?_|refine aa fun C=>?_|refine au (by kernel_rfl) (by kernel_rfl) fun C=>?_|refine ac ?_|refine ah ?_|refine al ?_|refine aB ?_|(refine ae (by rfl) ?_ ?_<;>intro hC<;>(try cases hC)))
      all_goals first
       | (exfalso;simp only [decide_eq_true_iff,decide_eq_false_iff_not] at *;omega)
       | (refine am ?_;refine bv rfl (bS (aD (bh (aS rfl (aS rfl (aS rfl aV)))) (aD aJ bc))) ⟨?_,rfl⟩;rfl)
   ·have ca:=za4 hall omq omq hv
    generalize Lib.atoiSat (bk s 0 k).data.toList=y at ca
    rw [if_neg fun h=>hv omq]
    by_cases hk2:k<s.size
    ·have hd:cF (bAt s k)=false:=by
      cases hd:cF (bAt s k) with
      | false=>rfl
      | true=>exact absurd ⟨hk2,hd⟩ hk
     rw [hd] at c2
     repeat' (first|(apply dc;refine o_nn ?_)|(apply av;first|refine bC ?_|(refine aK ?_ ?_<;>intro hG<;>(try cases hG))|refine ak ?_|refine dI (v:=.tu _) ?_|refine ai ?_|refine aG c2 ?_|refine dp ca ?_|refine be ?_|refine bg ?_|refine aE ?_|refine aA ?_|refine cK ?_|refine cb ?_|refine jx ?_|refine az ?_)|refine aj ?_|refine ab ?_|(apply dc;first|refine fE ?_|(refine fB ?_ ?_<;>intro hG<;>(try cases hG))|(apply dx;refine aH ?_)|refine aH ?_)|refine aj ?_|refine ab ?_|refine aa fun C=>?_|refine au (by kernel_rfl) (by kernel_rfl) fun C=>?_|refine ac ?_|refine aB ?_|(refine ae (by rfl) ?_ ?_<;>intro hC<;>(try cases hC)))
     all_goals first
      | (exfalso;simp only [decide_eq_true_iff,decide_eq_false_iff_not] at *;omega)
      | (refine am ?_;refine bv rfl (bS (aD (bh (aS rfl (aS rfl (aS rfl aV)))) (aD aJ bc))) ⟨?_,rfl⟩;rfl)
    ·repeat' (first|(apply dc;refine o_nn ?_)|(apply av;first|refine bC ?_|(refine aK ?_ ?_<;>intro hG<;>(try cases hG))|refine ak ?_|refine dI (v:=.tu _) ?_|refine ai ?_|refine aG c2 ?_|refine dp ca ?_|refine be ?_|refine bg ?_|refine aE ?_|refine aw ?_|refine aA ?_|refine cK ?_|refine cb ?_|refine jx ?_|refine az ?_)|refine aj ?_|refine ab ?_|(apply dc;first|refine fE ?_|(refine fB ?_ ?_<;>intro hG<;>(try cases hG))|(apply dx;refine aH ?_)|refine aH ?_)|refine aj ?_|refine ab ?_|refine aa fun C=>?_|refine au (by kernel_rfl) (by kernel_rfl) fun C=>?_|refine ac ?_|refine ah ?_|refine al ?_|refine aB ?_|(refine ae (by rfl) ?_ ?_<;>intro hC<;>(try cases hC)))
     all_goals first
      | (exfalso;simp only [decide_eq_true_iff,decide_eq_false_iff_not] at *;omega)
      | (refine am ?_;refine bv rfl (bS (aD (bh (aS rfl (aS rfl (aS rfl aV)))) (aD aJ bc))) ⟨?_,rfl⟩;rfl)
theorem xS {s:ByteArray}(hs:s.size≤1048576)(h0:0<s.size)(rex:Bool):Ctr prog 40 [.c (.v (.string s)),.c (.v (.bool rex))] [] (.tu [.ag [.v (.int .i64 (gD s rex).k),.v (.int .i64 (gD s rex).n),.v (.string (gD s rex).s)],.c (.v (.int .i64 ((gD s rex).e:Int)))]) []:=by
 by_cases h4:bAt s 0=47∧rex=true
 ·obtain⟨h47,rfl⟩:=h4
  exact zz7 hs h0 h47
 ·cases h1:cF (bAt s 0) with
  | true=>exact zd8 hs h0 rex h1
  | false =>
   cases h2:gC (bAt s 0) with
   | true=>exact zc8 hs h0 rex h2
   | false =>
    by_cases h3:bAt s 0=39
    ·exact za8 hs h0 h3 rex
    ·exact zb8 hs h0 rex h1 h2 h3 h4
end Go.Proofs.YtomolhbkdhjofaaGreatDoor
