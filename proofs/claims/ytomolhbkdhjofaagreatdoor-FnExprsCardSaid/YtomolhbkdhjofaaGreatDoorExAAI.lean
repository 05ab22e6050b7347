/- T -/
import Derived.Test.YtomolhbkdhjofaaGreatDoorExAAH
set_option maxHeartbeats 0
set_option maxRecDepth 100000
namespace Go.Proofs.YtomolhbkdhjofaaGreatDoor
open Go.RowKit Go.Proofs.Tryz
section
variable {ops:Array Oper}{Q:Exit→Act→World→Prop}{C:Ctx}{H:List (Nat×Oper×Inf)}{i:Nat}{r:List Nat}{dr:Bool}
variable {tm:Nat→AV}{hp:Nat→Option Row}{gn L:Nat}{us:List Nat}
theorem za5 {P:Program}{o:Oper}{T ty:TypeId}{xo:Operand}(ho:o.op=.binOp .neq T xo (.const .nilIface) ty)(hT:P.isIface T=true)(ev:Operand→Value)(w:World)(hx:ev xo=.nilIface)(hy:ev (.const .nilIface)=.nilIface):(execOp ev o).run P w=.ok (.value (.bool false)) w:=by
 unfold execOp
 rw [ho]
 simp only [hx,hy]
 simp [Sem.run_bind,eqGuard,run_neq_nil_nil_at w T hT]
theorem o_n0 {t:Nat}{gd:Option (Nat×Bool)}{ps:String}{af:Array Edge}{ty ty':TypeId}{xo:Operand}(h:Walk prog ops Q C dr (bB dr (i,(⟨some t,.binOp .neq 83 xo (.const .nilIface) ty',ty,ps,af,gd⟩:Oper),⟨fpO (AS.ev ⟨tm,hp,gn,us,L⟩) (⟨some t,.binOp .neq 83 xo (.const .nilIface) ty',ty,ps,af,gd⟩:Oper),[],[],.c (.v (.bool false))⟩) H) r ⟨upd tm t (.c (.v (.bool false))),hp,gn,us,L⟩)
 (ht:Nat.blt t L=true:=by exact rfl) (hg:gw ops tm (⟨some t,.binOp .neq 83 xo (.const .nilIface) ty',ty,ps,af,gd⟩:Oper)=some true:=by exact rfl) (hx:AS.ev ⟨tm,hp,gn,us,L⟩ xo=.c (.v .nilIface):=by exact rfl)
 (hc:chk dr ops i (⟨some t,.binOp .neq 83 xo (.const .nilIface) ty',ty,ps,af,gd⟩:Oper) ⟨fpO (AS.ev ⟨tm,hp,gn,us,L⟩) (⟨some t,.binOp .neq 83 xo (.const .nilIface) ty',ty,ps,af,gd⟩:Oper),[],[],.c (.v (.bool false))⟩ H=true:=by first|(with_reducible exact bg)|kernel_rfl):WalkO prog ops Q C dr H i (⟨some t,.binOp .neq 83 xo (.const .nilIface) ty',ty,ps,af,gd⟩:Oper) r ⟨tm,hp,gn,us,L⟩:=⟨fun hop=>by
 refine⟨_,_,hop,mL (y:=.bool false) hop hg rfl fun ev w he=>?_,fun n hn=>absurd hn List.not_mem_nil,dM hc,cv ?_⟩
 ·have key:∀o'∈#[xo,(.const .nilIface:Operand)],(AS.ev ⟨tm,hp,gn,us,L⟩ o'=.c (.v .nilIface))→ev o'=.nilIface:=fun o' ho' hv=>by
   obtain⟨St,φ,K,h1⟩:=he o' ho'
   rw [hv] at h1
   simp only [VR,CR] at h1
   exact h1.1
  exact za5 rfl (by kernel_rfl) ev w (key xo (by simp) hx) (key _ (by simp) rfl)
 ·show Walk prog ops Q C dr _ r (AS.put _ (some t) _)
  rw [dz (by exact dy ht)];exact h⟩
end
theorem zb5 {s:ByteArray}(hs:s.size≤1048576)(h0:0<s.size)(h47:bAt s 0=47):Ctr prog 40 [.c (.v (.string s)),.c (.v (.bool true))] [] (.tu [.ag [.v (.int .i64 (fZ s true).k),.v (.int .i64 (fZ s true).n),.v (.string (fZ s true).s)],.c (.v (.int .i64 ((fZ s true).e:Int)))]) []:=by
 have ce:=lW hs h0
 rw [tok_R h47]
 rw [h47] at ce
 have hr:=bO (p:=neB 47) (s:=s) s.size 1 omq omq
 have g1:=hr.1
 have g2:=hr.2.1
 clear hr
 generalize bI (neB 47) s s.size 1=e at ce g1 g2 ⊢
 by_cases he:e=s.size
 ·rw [if_pos he] at ce ⊢
  refine av func40 rfl rfl ?_
  repeat' (first|(apply ay;first|(refine aR ?_ ?_<;>intro hG<;>(try cases hG))|refine al ?_|refine ai ?_|refine aY ?_|refine aB ?_|refine bZ ?_|refine cG ?_)|refine ak ?_|refine ab ?_|refine aa fun C=>?_|refine ac ?_|refine ah ?_)
  refine ae (by rfl) (fun hC=>?_) fun hC=>by exfalso;simp at hC;omega
  repeat' (first|(apply ay;first|refine bX ?_|(refine aR ?_ ?_<;>intro hG<;>(try cases hG))|refine al ?_|refine db (v:=.tu _) ?_|refine ai ?_|refine dn ce ?_|refine bC ?_|refine b7 ?_|refine aB ?_|refine cE ?_|refine az ?_)|refine ak ?_|refine ab ?_|refine aa fun C=>?_|refine ac ?_|refine aq rfl ?_)
  refine am ?_;refine bv rfl (cf (aC (aZ (aE rfl (aE rfl (aE rfl aL)))) (aC aH bh))) ⟨?_,rfl⟩;rfl
 ·rw [if_neg he] at ce ⊢
  have hz:=bR (s:=s) (a:=1) (b:=e) g1 g2
  have cr:=pq (s:=bu s 1 e) omq
  cases hb:decide (1≤(bu s 1 e).size)&&df 47 (bu s 1 e) with
  | false =>
   rw [hb] at cr
   rw [if_neg (by simp)]
   refine av func40 rfl rfl ?_
   repeat' (first|(apply ay;first|(refine aR ?_ ?_<;>intro hG<;>(try cases hG))|refine al ?_|refine ai ?_|refine aY ?_|refine aB ?_|refine bZ ?_|refine cG ?_)|refine ak ?_|refine ab ?_|refine aa fun C=>?_|refine ac ?_|refine ah ?_)
   refine ae (by rfl) (fun hC=>?_) fun hC=>by exfalso;simp at hC;omega
   repeat' (first|(apply ay;first|(refine aR ?_ ?_<;>intro hG<;>(try cases hG))|refine al ?_|refine db (v:=.tu _) ?_|refine ai ?_|refine dn ce ?_|refine aF cr ?_|refine bC ?_|refine b7 ?_|refine aB ?_|refine cE ?_|refine az ?_)|refine ak ?_|refine ab ?_|refine aa fun C=>?_|refine ac ?_|refine aq rfl ?_)
   refine am ?_;refine bv rfl (cf (aC (aZ (aE rfl (aE rfl (aE rfl aL)))) (aC aH bh))) ⟨?_,rfl⟩;rfl
  | true =>
   rw [hb] at cr
   rw [if_pos rfl]
   have he1:((e+1:Nat):Int)=((bu s 1 e).size:Int)+2:=by omega
   rw [he1]
   refine av func40 rfl rfl ?_
   repeat' (first|(apply ay;first|(refine aR ?_ ?_<;>intro hG<;>(try cases hG))|refine al ?_|refine ai ?_|refine aY ?_|refine aB ?_|refine bZ ?_|refine cG ?_)|refine ak ?_|refine ab ?_|refine aa fun C=>?_|refine ac ?_|refine ah ?_)
   refine ae (by rfl) (fun hC=>?_) fun hC=>by exfalso;simp at hC;omega
   repeat' (first|(apply ay;first|(refine aR ?_ ?_<;>intro hG<;>(try cases hG))|refine al ?_|refine db (v:=.tu _) ?_|refine ai ?_|refine dn ce ?_|refine aF cr ?_|refine bK ?_|refine bC ?_|refine aw ?_|refine b7 ?_|refine aB ?_|refine cE ?_|refine az ?_)|refine ak ?_|refine ab ?_|refine aa fun C=>?_|refine ac ?_|refine aj ?_|refine au rfl ?_)
   refine am ?_;refine bv rfl (cf (aC (aZ (aE rfl (aE rfl (aE rfl aL)))) (aC aH bh))) ⟨?_,rfl⟩;rfl
theorem zc5 {s:ByteArray}(hs:s.size≤1048576)(h0:0<s.size)(h39:bAt s 0=39)(rex:Bool):Ctr prog 40 [.c (.v (.string s)),.c (.v (.bool rex))] [] (.tu [.ag [.v (.int .i64 (fZ s rex).k),.v (.int .i64 (fZ s rex).n),.v (.string (fZ s rex).s)],.c (.v (.int .i64 ((fZ s rex).e:Int)))]) []:=by
 have ce:=lW hs h0
 have cd:=eN (bAt s 0)
 have cl:=fD (bAt s 0)
 rw [show cR (bAt s 0)=false by simp [cR];omega] at cd
 rw [show gy (bAt s 0)=false by simp [gy];omega] at cl
 rw [tok_Q h39]
 rw [h39] at ce
 have hr:=bO (p:=neB 39) (s:=s) s.size 1 omq omq
 have g1:=hr.1
 have g2:=hr.2.1
 clear hr
 generalize bI (neB 39) s s.size 1=e at ce g1 g2 ⊢
 by_cases he:e=s.size
 ·rw [if_pos he] at ce ⊢
  cases rex<;>refine av func40 rfl rfl ?_
  all_goals
   repeat' (first|(apply ay;first|refine bX ?_|(refine aR ?_ ?_<;>intro hG<;>(try cases hG))|refine al ?_|refine db (v:=.tu _) ?_|refine ai ?_|refine dn ce ?_|refine aF cd ?_|refine aF cl ?_|refine bC ?_|refine aY ?_|refine b7 ?_|refine aB ?_|refine cE ?_|refine bZ ?_|refine cG ?_|refine az ?_)|refine ak ?_|refine ab ?_|refine aa fun C=>?_|refine ac ?_|refine ah ?_|refine aj ?_|(refine ae (by rfl) ?_ ?_<;>intro hC<;>(try cases hC)))
   all_goals first
    | (exfalso;simp only [beq_iff_eq,beq_eq_false_iff_ne,ne_eq] at *;omega)
    | (refine am ?_;refine bv rfl (cf (aC (aZ (aE rfl (aE rfl (aE rfl aL)))) (aC aH bh))) ⟨?_,rfl⟩;rfl)
 ·rw [if_neg he] at ce ⊢
  have hz:=bR (s:=s) (a:=1) (b:=e) g1 g2
  have cr:=qH (s:=bu s 1 e) omq
  cases hb:df 39 (bu s 1 e) with
  | false =>
   rw [hb] at cr
   rw [if_neg (by simp)]
   cases rex<;>refine av func40 rfl rfl ?_
   all_goals
    repeat' (first|(apply ay;first|refine bX ?_|(refine aR ?_ ?_<;>intro hG<;>(try cases hG))|refine al ?_|refine db (v:=.tu _) ?_|refine ai ?_|refine dn ce ?_|refine aF cd ?_|refine aF cl ?_|refine aF cr ?_|refine bC ?_|refine aY ?_|refine b7 ?_|refine aB ?_|refine cE ?_|refine bZ ?_|refine cG ?_|refine az ?_)|refine ak ?_|refine ab ?_|refine aa fun C=>?_|refine ac ?_|refine ah ?_|refine aj ?_|(refine ae (by rfl) ?_ ?_<;>intro hC<;>(try cases hC)))
    all_goals first
     | (exfalso;simp only [beq_iff_eq,beq_eq_false_iff_ne,ne_eq] at *;omega)
     | (refine am ?_;refine bv rfl (cf (aC (aZ (aE rfl (aE rfl (aE rfl aL)))) (aC aH bh))) ⟨?_,rfl⟩;rfl)
  | true =>
   rw [hb] at cr
   rw [if_pos rfl]
   have he1:((e+1:Nat):Int)=((bu s 1 e).size:Int)+2:=by omega
   rw [he1]
   cases rex<;>refine av func40 rfl rfl ?_
   all_goals
    repeat' (first|(apply ay;first|refine bX ?_|(refine aR ?_ ?_<;>intro hG<;>(try cases hG))|refine al ?_|refine db (v:=.tu _) ?_|refine ai ?_|refine dn ce ?_|refine aF cd ?_|refine aF cl ?_|refine aF cr ?_|refine bK ?_|refine bC ?_|refine aY ?_|refine aw ?_|refine b7 ?_|refine aB ?_|refine cE ?_|refine bZ ?_|refine cG ?_|refine az ?_)|refine ak ?_|refine ab ?_|refine aa fun C=>?_|refine ac ?_|refine ah ?_|refine aj ?_|(refine ae (by rfl) ?_ ?_<;>intro hC<;>(try cases hC)))
    all_goals first
     | (exfalso;simp only [beq_iff_eq,beq_eq_false_iff_ne,ne_eq] at *;omega)
     | (refine am ?_;refine bv rfl (cf (aC (aZ (aE rfl (aE rfl (aE rfl aL)))) (aC aH bh))) ⟨?_,rfl⟩;rfl)
theorem zd5 {s:ByteArray}(hs:s.size≤1048576)(h0:0<s.size)(rex:Bool)(h1:cR (bAt s 0)=false)(h2:gy (bAt s 0)=false)(h3:bAt s 0≠39)(h4:¬(bAt s 0=47∧rex=true)):Ctr prog 40 [.c (.v (.string s)),.c (.v (.bool rex))] [] (.tu [.ag [.v (.int .i64 (fZ s rex).k),.v (.int .i64 (fZ s rex).n),.v (.string (fZ s rex).s)],.c (.v (.int .i64 ((fZ s rex).e:Int)))]) []:=by
 have cd:=eN (bAt s 0)
 have cl:=fD (bAt s 0)
 have cm:=xD hs
 rw [tok_M h0 h1 h2 h3 h4]
 rw [h1] at cd
 rw [h2] at cl
 cases rex with
 | false =>
  refine av func40 rfl rfl ?_
  repeat' (first|(apply ay;first|refine bX ?_|(refine aR ?_ ?_<;>intro hG<;>(try cases hG))|refine al ?_|refine ai ?_|refine aF cd ?_|refine aF cl ?_|refine aF cm ?_|refine bK ?_|refine bC ?_|refine aY ?_|refine aB ?_|refine bZ ?_|refine cG ?_|refine az ?_)|refine ak ?_|refine ab ?_|refine aa fun C=>?_|refine ac ?_|refine ah ?_|refine aj ?_|(refine ae (by rfl) ?_ ?_<;>intro hC<;>(try cases hC)))
  all_goals first
   | (exfalso;simp only [beq_iff_eq,beq_eq_false_iff_ne,ne_eq] at *;omega)
   | (refine am ?_;refine bv rfl (cf (aC (aZ (aE rfl (aE rfl (aE rfl aL)))) (aC aH bh))) ⟨?_,rfl⟩;rfl)
 | true =>
  have h5:bAt s 0≠47:=fun h=>h4 ⟨h,rfl⟩
  refine av func40 rfl rfl ?_
  repeat' (first|(apply ay;first|(refine aR ?_ ?_<;>intro hG<;>(try cases hG))|refine al ?_|refine ai ?_|refine aF cd ?_|refine aF cl ?_|refine aF cm ?_|refine bK ?_|refine bC ?_|refine aY ?_|refine aB ?_|refine bZ ?_|refine cG ?_|refine az ?_)|refine ak ?_|refine ab ?_|refine aa fun C=>?_|refine ac ?_|refine ah ?_|refine aj ?_|(refine ae (by rfl) ?_ ?_<;>intro hC<;>(try cases hC)))
  all_goals first
   | (exfalso;simp only [beq_iff_eq,beq_eq_false_iff_ne,ne_eq] at *;omega)
   | (refine am ?_;refine bv rfl (cf (aC (aZ (aE rfl (aE rfl (aE rfl aL)))) (aC aH bh))) ⟨?_,rfl⟩;rfl)
theorem ze5 {s:ByteArray}(hs:s.size≤1048576)(h0:0<s.size)(rex:Bool)(h2:gy (bAt s 0)=true):Ctr prog 40 [.c (.v (.string s)),.c (.v (.bool rex))] [] (.tu [.ag [.v (.int .i64 (fZ s rex).k),.v (.int .i64 (fZ s rex).n),.v (.string (fZ s rex).s)],.c (.v (.int .i64 ((fZ s rex).e:Int)))]) []:=by
 have cd:=eN (bAt s 0)
 have cl:=fD (bAt s 0)
 have cw:=jw hs
 have h5:bAt s 0≠47:=by simp [gy] at h2;omega
 rw [tok_L h0 h2]
 rw [pC h2] at cd
 rw [h2] at cl
 have hr:=bO (p:=ldB) (s:=s) s.size 0 omq omq
 have g2:=hr.2.1
 clear hr
 generalize bI ldB s s.size 0=e at cw g2 ⊢
 by_cases he:e≤8
 ·rw [if_pos he]
  cases rex<;>refine av func40 rfl rfl ?_
  all_goals
   repeat' (first|(apply ay;first|refine bX ?_|(refine aR ?_ ?_<;>intro hG<;>(try cases hG))|refine al ?_|refine ai ?_|refine aF cd ?_|refine aF cl ?_|refine aF cw ?_|refine bC ?_|refine aY ?_|refine a7 ?_|refine aB ?_|refine bZ ?_|refine cG ?_|refine gh ?_|refine az ?_)|refine ak ?_|refine ab ?_|refine aa fun C=>?_|refine ac ?_|refine ah ?_|refine aj ?_|(refine ae (by rfl) ?_ ?_<;>intro hC<;>(try cases hC)))
   all_goals first
    | (exfalso;simp only [beq_iff_eq,beq_eq_false_iff_ne,ne_eq,decide_eq_true_iff,decide_eq_false_iff_not] at *;omega)
    | (refine am ?_;refine bv rfl (cf (aC (aZ (aE rfl (aE rfl (aE rfl aL)))) (aC aH bh))) ⟨?_,rfl⟩;rfl)
 ·rw [if_neg he]
  cases rex<;>refine av func40 rfl rfl ?_
  all_goals
   repeat' (first|(apply ay;first|refine bX ?_|(refine aR ?_ ?_<;>intro hG<;>(try cases hG))|refine al ?_|refine ai ?_|refine aF cd ?_|refine aF cl ?_|refine aF cw ?_|refine bC ?_|refine aY ?_|refine a7 ?_|refine aB ?_|refine bZ ?_|refine cG ?_|refine gh ?_|refine az ?_)|refine ak ?_|refine ab ?_|refine aa fun C=>?_|refine ac ?_|refine ah ?_|refine aj ?_|(refine ae (by rfl) ?_ ?_<;>intro hC<;>(try cases hC)))
   all_goals first
    | (exfalso;simp only [beq_iff_eq,beq_eq_false_iff_ne,ne_eq,decide_eq_true_iff,decide_eq_false_iff_not] at *;omega)
    | (refine am ?_;refine bv rfl (cf (aC (aZ (aE rfl (aE rfl (aE rfl aL)))) (aC aH bh))) ⟨?_,rfl⟩;rfl)
theorem zf5 {s:ByteArray}(hs:s.size≤1048576)(h0:0<s.size)(rex:Bool)(h1:cR (bAt s 0)=true):Ctr prog 40 [.c (.v (.string s)),.c (.v (.bool rex))] [] (.tu [.ag [.v (.int .i64 (fZ s rex).k),.v (.int .i64 (fZ s rex).n),.v (.string (fZ s rex).s)],.c (.v (.int .i64 ((fZ s rex).e:Int)))]) []:=by
 have cd:=eN (bAt s 0)
 rw [tok_D h0 h1]
 rw [h1] at cd
 have h5:bAt s 0≠47:=by simp [cR] at h1;omega
 have hst:=(fa h0 h1).2
 have hall:=uY (s:=s)
 cases rex<;>refine av func40 rfl rfl ?_
 case' true =>
  repeat' (first|(apply ay;first|(refine aR ?_ ?_<;>intro hG<;>(try cases hG))|refine al ?_|refine ai ?_|refine aY ?_|refine aB ?_|refine bZ ?_|refine cG ?_)|refine ak ?_|refine ab ?_|refine aa fun C=>?_|refine ac ?_|refine ah ?_)
  refine ae (by rfl) (fun hC=>by exfalso;simp at hC;omega) fun hC=>?_
  repeat' (first|(apply ay;first|refine al ?_|refine ai ?_|refine aF cd ?_)|refine ak ?_|refine ab ?_|refine aa fun C=>?_|refine ac ?_|refine ah ?_|refine aq rfl ?_)
 case' false =>
  repeat' (first|(apply ay;first|refine bX ?_|(refine aR ?_ ?_<;>intro hG<;>(try cases hG))|refine al ?_|refine ai ?_|refine aF cd ?_|refine aB ?_|refine bZ ?_|refine cG ?_)|refine ak ?_|refine ab ?_|refine aa fun C=>?_|refine ac ?_|refine ah ?_|refine aq rfl ?_|refine au rfl ?_)
 all_goals
  refine a8 (fun k:Nat=>⟨eX [(0,.c (.v (.string s))),(4,.c (.pt 4 0)),(9,.c (.v (.int .i64 (k:Int))))],eJ [(4,4,⟨63,0,0,true,[.v (.int .i64 0),.v (.int .i64 0),.v (.string ⟨#[]⟩)]⟩)],0,[4],122⟩)
   (fun N k=>k+N=s.size∧bI cR s s.size 0=bI cR s N k) s.size 0 ⟨omq,rfl⟩ ?_ ?_
  ·show Gh _ _
   (refine aM _ _ rfl rfl ?_ ?_<;>exact tdy2)
  rintro N k ⟨hN,hr⟩
  try dsimp only
  clear cd
  have c2:=eN (bAt s k)
  by_cases hk:k<s.size∧cR (bAt s k)=true
  ·obtain⟨M,rfl⟩:∃M,N=M+1:=⟨N-1,omq⟩
   obtain⟨hk,hd⟩:=hk
   rw [hd] at c2
   have hq:bI cR s s.size 0=bI cR s M (k+1):=by rw [hr,jY hk hd]
   clear hr
   repeat' (first|(apply ay;first|refine bX ?_|(refine aR ?_ ?_<;>intro hG<;>(try cases hG))|refine al ?_|refine ai ?_|refine aF c2 ?_|refine bK ?_|refine aD ?_|refine aw ?_|refine aB ?_|refine cG ?_|refine gh ?_)|refine ak ?_|refine ab ?_|refine aa fun C=>?_|refine ac ?_|refine ah ?_|refine aj ?_|refine aA ?_|(refine ae (by rfl) ?_ ?_<;>intro hC<;>(try cases hC)))
   all_goals first
    | (exfalso;simp only [decide_eq_true_iff,decide_eq_false_iff_not] at *;omega)
    | (refine⟨M,k+1,omq,⟨omq,hq⟩,?_⟩;show Gh _ _;(refine aM _ _ rfl rfl ?_ ?_<;>(repeat' (first|exact TmOk.nil|exact RwOk.nil|refine TmOk.cons ?_ ?_|refine RwOk.cons ?_ ?_|rfl|exact bq rfl (by assumption)|exact bq rfl (bytC_cloB _)|(refine rnV_id' rfl ?_;exact byc)|(refine cV ?_;first|rfl|omega|(rw [bM omq omq];omega))|(refine bq rfl ?_;exact byc)|exact d5 rfl rfl|(refine rw_mid (by rfl) (by rfl) ?_ ?_<;>exact byc)|(refine rw_rn' rfl rfl ?_;simp;done)))))
  ·have hn:bI cR s s.size 0=k:=by rw [hr,ky hk]
   clear hr
   rw [hn] at hst hall ⊢
   have hkz:k≤s.size:=by omega
   have hz:=bR (s:=s) (a:=0) (b:=k) omq hkz
   have hv0:(0:Int)≤(lw (bu s 0 k):Int):=by omega
   by_cases hv:lw (bu s 0 k)<9223372036854775808
   ·have ca:=zd1 hall omq omq hv
    have ci:=nX (n:=(lw (bu s 0 k):Int)) omq omq
    generalize lw (bu s 0 k)=v at *
    by_cases hm:v≤2147483647
    ·cases he:(iE (v:Int)).toList==(bu s 0 k).toList with
     | true =>
      have he2:=he
      rw [bytes_beq,decide_eq_true_iff] at he2
      rw [if_pos ⟨hm,he2⟩]
      by_cases hk2:k<s.size
      ·have hd:cR (bAt s k)=false:=by
        cases hd:cR (bAt s k) with
        | false=>rfl
        | true=>exact absurd ⟨hk2,hd⟩ hk
       rw [hd] at c2
       repeat' (first|(apply dC;refine o_n0 ?_)|(apply ay;first|refine bX ?_|(refine aR ?_ ?_<;>intro hG<;>(try cases hG))|refine al ?_|refine db (v:=.tu _) ?_|refine ai ?_|refine aF c2 ?_|refine dn ca ?_|refine bK ?_|refine bC ?_|refine aD ?_|refine aB ?_|refine cE ?_|refine cG ?_|refine gh ?_|refine az ?_)|refine ak ?_|refine ab ?_|(apply dC;first|refine iu ?_|(refine ik ?_ ?_<;>intro hG<;>(try cases hG))|(apply ep;refine aN ?_)|refine ex ci ?_|(apply ic;refine aN ?_)|refine jM ?_|refine aN ?_)|refine ak ?_|refine ab ?_|refine aa fun C=>?_|refine ar (by kernel_rfl) (by kernel_rfl) fun C=>?_|refine ac ?_|refine aj ?_|refine aA ?_|(refine ae (by rfl) ?_ ?_<;>intro hC<;>(try cases hC)))
       all_goals first
        | (exfalso;rw [bne,he] at hG;cases hG;done)
        | (exfalso;rw [he] at hC;cases hC;done)
        | (exfalso;simp only [decide_eq_true_iff,decide_eq_false_iff_not] at *;omega)
        | (refine am ?_;refine bv rfl (cf (aC (aZ (aE rfl (aE rfl (aE rfl aL)))) (aC aH bh))) ⟨?_,rfl⟩;rfl)
      ·repeat' (first|(apply dC;refine o_n0 ?_)|(apply ay;first|refine bX ?_|(refine aR ?_ ?_<;>intro hG<;>(try cases hG))|refine al ?_|refine db (v:=.tu _) ?_|refine ai ?_|refine aF c2 ?_|refine dn ca ?_|refine bK ?_|refine bC ?_|refine aD ?_|refine aw ?_|refine aB ?_|refine cE ?_|refine cG ?_|refine gh ?_|refine az ?_)|refine ak ?_|refine ab ?_|(apply dC;first|refine iu ?_|(refine ik ?_ ?_<;>intro hG<;>(try cases hG))|(apply ep;refine aN ?_)|refine ex ci ?_|(apply ic;refine aN ?_)|refine jM ?_|refine aN ?_)|refine ak ?_|refine ab ?_|refine aa fun C=>?_|refine ar (by kernel_rfl) (by kernel_rfl) fun C=>?_|refine ac ?_|refine ah ?_|refine aj ?_|refine aA ?_|(refine ae (by rfl) ?_ ?_<;>intro hC<;>(try cases hC)))
       all_goals first
        | (exfalso;rw [bne,he] at hG;cases hG;done)
        | (exfalso;rw [he] at hC;cases hC;done)
        | (exfalso;simp only [decide_eq_true_iff,decide_eq_false_iff_not] at *;omega)
        | (refine am ?_;refine bv rfl (cf (aC (aZ (aE rfl (aE rfl (aE rfl aL)))) (aC aH bh))) ⟨?_,rfl⟩;rfl)
     | false =>
      have he2:=he
      rw [bytes_beq,decide_eq_false_iff_not] at he2
      rw [if_neg fun h=>he2 h.2]
      by_cases hk2:k<s.size
      ·have hd:cR (bAt s k)=false:=by
        cases hd:cR (bAt s k) with
        | false=>rfl
        | true=>exact absurd ⟨hk2,hd⟩ hk
       rw [hd] at c2
       repeat' (first|(apply dC;refine o_n0 ?_)|(apply ay;first|refine bX ?_|(refine aR ?_ ?_<;>intro hG<;>(try cases hG))|refine al ?_|refine db (v:=.tu _) ?_|refine ai ?_|refine aF c2 ?_|refine dn ca ?_|refine bK ?_|refine bC ?_|refine aD ?_|refine aB ?_|refine cE ?_|refine cG ?_|refine gh ?_|refine az ?_)|refine ak ?_|refine ab ?_|(apply dC;first|refine iu ?_|(refine ik ?_ ?_<;>intro hG<;>(try cases hG))|(apply ep;refine aN ?_)|refine ex ci ?_|(apply ic;refine aN ?_)|refine jM ?_|refine aN ?_)|refine ak ?_|refine ab ?_|refine aa fun C=>?_|refine ar (by kernel_rfl) (by kernel_rfl) fun C=>?_|refine ac ?_|refine aj ?_|refine aA ?_|(refine ae (by rfl) ?_ ?_<;>intro hC<;>(try cases hC)))
       all_goals first
        | (exfalso;rw [bne,he] at hG;cases hG;done)
        | (exfalso;rw [he] at hC;cases hC;done)
        | (exfalso;simp only [decide_eq_true_iff,decide_eq_false_iff_not] at *;omega)
        | (refine am ?_;refine bv rfl (cf (aC (aZ (aE rfl (aE rfl (aE rfl aL)))) (aC aH bh))) ⟨?_,rfl⟩;rfl)
      ·repeat' (first|(apply dC;refine o_n0 ?_)|(apply ay;first|refine bX ?_|(refine aR ?_ ?_<;>intro hG<;>(try cases hG))|refine al ?_|refine db (v:=.tu _) ?_|refine ai ?_|refine aF c2 ?_|refine dn ca ?_|refine bK ?_|refine bC ?_|refine aD ?_|refine aw ?_|refine aB ?_|refine cE ?_|refine cG ?_|refine gh ?_|refine az ?_)|refine ak ?_|refine ab ?_|(apply dC;first|refine iu ?_|(refine ik ?_ ?_<;>intro hG<;>(try cases hG))|(apply ep;refine aN ?_)|refine ex ci ?_|(apply ic;refine aN ?_)|refine jM ?_|refine aN ?_)|refine ak ?_|refine ab ?_|refine aa fun C=>?_|refine ar (by kernel_rfl) (by kernel_rfl) fun C=>?_|refine ac ?_|refine ah ?_|refine aj ?_|refine aA ?_|(refine ae (by rfl) ?_ ?_<;>intro hC<;>(try cases hC)))
       all_goals first
        | (exfalso;rw [bne,he] at hG;cases hG;done)
        | (exfalso;rw [he] at hC;cases hC;done)
        | (exfalso;simp only [decide_eq_true_iff,decide_eq_false_iff_not] at *;omega)
        | (refine am ?_;refine bv rfl (cf (aC (aZ (aE rfl (aE rfl (aE rfl aL)))) (aC aH bh))) ⟨?_,rfl⟩;rfl)
    ·rw [if_neg fun h=>hm h.1]
     by_cases hk2:k<s.size
     ·have hd:cR (bAt s k)=false:=by
       cases hd:cR (bAt s k) with
       | false=>rfl
       | true=>exact absurd ⟨hk2,hd⟩ hk
      rw [hd] at c2
      repeat' (first|(apply dC;refine o_n0 ?_)|(apply ay;first|refine bX ?_|(refine aR ?_ ?_<;>intro hG<;>(try cases hG))|refine al ?_|refine db (v:=.tu _) ?_|refine ai ?_|refine aF c2 ?_|refine dn ca ?_|refine bK ?_|refine bC ?_|refine aD ?_|refine aB ?_|refine cE ?_|refine cG ?_|refine gh ?_|refine az ?_)|refine ak ?_|refine ab ?_|(apply dC;first|refine iu ?_|(refine ik ?_ ?_<;>intro hG<;>(try cases hG))|(apply ep;refine aN ?_)|refine ex ci ?_|(apply ic;refine aN ?_)|refine jM ?_|refine aN ?_)|refine ak ?_|refine ab ?_|refine aa fun C=>?_|refine ar (by kernel_rfl) (by kernel_rfl) fun C=>?_|refine ac ?_|refine aj ?_|refine aA ?_|(refine ae (by rfl) ?_ ?_<;>intro hC<;>(try cases hC)))
      all_goals first
       | (exfalso;simp only [decide_eq_true_iff,decide_eq_false_iff_not] at *;omega)
       | (refine am ?_;refine bv rfl (cf (aC (aZ (aE rfl (aE rfl (aE rfl aL)))) (aC aH bh))) ⟨?_,rfl⟩;rfl)
     ·repeat' (first|(apply dC;refine o_n0 ?_)|(apply ay;first|refine bX ?_|(refine aR ?_ ?_<;>intro hG<;>(try cases hG))|refine al ?_|refine db (v:=.tu _) ?_|refine ai ?_|refine aF c2 ?_|refine dn ca ?_|refine bK ?_|refine bC ?_|refine aD ?_|refine aw ?_|refine aB ?_|refine cE ?_|refine cG ?_|refine gh ?_|refine az ?_)|refine ak ?_|refine ab ?_|(apply dC;first|refine iu ?_|(refine ik ?_ ?_<;>intro hG<;>(try cases hG))|(apply ep;refine aN ?_)|refine ex ci ?_|(apply ic;refine aN ?_)|refine jM ?_|refine aN ?_)|refine ak ?_|refine ab ?_|refine aa fun C=>?_|refine ar (by kernel_rfl) (by kernel_rfl) fun C=>?_|refine ac ?_|refine ah ?_|refine aj ?_|refine aA ?_|(refine ae (by rfl) ?_ ?_<;>intro hC<;>(try cases hC)))
      all_goals first
       | (exfalso;simp only [decide_eq_true_iff,decide_eq_false_iff_not] at *;omega)
       | (refine am ?_;refine bv rfl (cf (aC (aZ (aE rfl (aE rfl (aE rfl aL)))) (aC aH bh))) ⟨?_,rfl⟩;rfl)
   ·have ca:=ze1 hall omq omq hv
    generalize Lib.atoiSat (bu s 0 k).data.toList=y at ca
    rw [if_neg fun h=>hv omq]
    by_cases hk2:k<s.size
    ·have hd:cR (bAt s k)=false:=by
      cases hd:cR (bAt s k) with
      | false=>rfl
      | true=>exact absurd ⟨hk2,hd⟩ hk
     rw [hd] at c2
     repeat' (first|(apply dC;refine o_nn ?_)|(apply ay;first|refine bX ?_|(refine aR ?_ ?_<;>intro hG<;>(try cases hG))|refine al ?_|refine db (v:=.tu _) ?_|refine ai ?_|refine aF c2 ?_|refine dn ca ?_|refine bK ?_|refine bC ?_|refine aD ?_|refine aB ?_|refine cE ?_|refine cG ?_|refine gh ?_|refine az ?_)|refine ak ?_|refine ab ?_|(apply dC;first|refine iu ?_|(refine ik ?_ ?_<;>intro hG<;>(try cases hG))|(apply ep;refine aN ?_)|refine aN ?_)|refine ak ?_|refine ab ?_|refine aa fun C=>?_|refine ar (by kernel_rfl) (by kernel_rfl) fun C=>?_|refine ac ?_|refine aA ?_|(refine ae (by rfl) ?_ ?_<;>intro hC<;>(try cases hC)))
     all_goals first
      | (exfalso;simp only [decide_eq_true_iff,decide_eq_false_iff_not] at *;omega)
      | (refine am ?_;refine bv rfl (cf (aC (aZ (aE rfl (aE rfl (aE rfl aL)))) (aC aH bh))) ⟨?_,rfl⟩;rfl)
    ·repeat' (first|(apply dC;refine o_nn ?_)|(apply ay;first|refine bX ?_|(refine aR ?_ ?_<;>intro hG<;>(try cases hG))|refine al ?_|refine db (v:=.tu _) ?_|refine ai ?_|refine aF c2 ?_|refine dn ca ?_|refine bK ?_|refine bC ?_|refine aD ?_|refine aw ?_|refine aB ?_|refine cE ?_|refine cG ?_|refine gh ?_|refine az ?_)|refine ak ?_|refine ab ?_|(apply dC;first|refine iu ?_|(refine ik ?_ ?_<;>intro hG<;>(try cases hG))|(apply ep;refine aN ?_)|refine aN ?_)|refine ak ?_|refine ab ?_|refine aa fun C=>?_|refine ar (by kernel_rfl) (by kernel_rfl) fun C=>?_|refine ac ?_|refine ah ?_|refine aj ?_|refine aA ?_|(refine ae (by rfl) ?_ ?_<;>intro hC<;>(try cases hC)))
     all_goals first
      | (exfalso;simp only [decide_eq_true_iff,decide_eq_false_iff_not] at *;omega)
      | (refine am ?_;refine bv rfl (cf (aC (aZ (aE rfl (aE rfl (aE rfl aL)))) (aC aH bh))) ⟨?_,rfl⟩;rfl)
theorem wA {s:ByteArray}(hs:s.size≤1048576)(h0:0<s.size)(rex:Bool):Ctr prog 40 [.c (.v (.string s)),.c (.v (.bool rex))] [] (.tu [.ag [.v (.int .i64 (fZ s rex).k),.v (.int .i64 (fZ s rex).n),.v (.string (fZ s rex).s)],.c (.v (.int .i64 ((fZ s rex).e:Int)))]) []:=by
 by_cases h4:bAt s 0=47∧rex=true
 ·obtain⟨h47,rfl⟩:=h4
  exact zb5 hs h0 h47
 ·cases h1:cR (bAt s 0) with
  | true=>exact zf5 hs h0 rex h1
  | false =>
   cases h2:gy (bAt s 0) with
   | true=>exact ze5 hs h0 rex h2
   | false =>
    by_cases h3:bAt s 0=39
    ·exact zc5 hs h0 h3 rex
    ·exact zd5 hs h0 rex h1 h2 h3 h4
end Go.Proofs.YtomolhbkdhjofaaGreatDoor
