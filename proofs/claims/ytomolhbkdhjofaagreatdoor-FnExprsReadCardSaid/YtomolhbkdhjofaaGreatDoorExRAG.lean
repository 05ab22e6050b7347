/- T -/
import Derived.Test.YtomolhbkdhjofaaGreatDoorExRAF
set_option maxHeartbeats 0
set_option maxRecDepth 100000
namespace Go.Proofs.YtomolhbkdhjofaaGreatDoor
open Go.RowKit Go.Proofs.Tryz
section
variable {ops:Array Oper}{Q:Exit→Act→World→Prop}{C:Ctx}{H:List (Nat×Oper×Inf)}{i:Nat}{r:List Nat}{dr:Bool}
variable {tm:Nat→AV}{hp:Nat→Option Row}{gn L:Nat}{us:List Nat}
theorem zu8 {P:Program}{o:Oper}{T ty:TypeId}{xo:Operand}(ho:o.op=.binOp .neq T xo (.const .nilIface) ty)(hT:P.isIface T=true)(ev:Operand→Value)(w:World)(hx:ev xo=.nilIface)(hy:ev (.const .nilIface)=.nilIface):(execOp ev o).run P w=.ok (.value (.bool false)) w:=by
 unfold execOp
 rw [ho]
 simp only [hx,hy]
 simp [Sem.run_bind,eqGuard,run_neq_nil_nil_at w T hT]
theorem o_n0 {t:Nat}{gd:Option (Nat×Bool)}{ps:String}{af:Array Edge}{ty ty':TypeId}{xo:Operand}(h:Walk prog ops Q C dr (bK dr (i,(⟨some t,.binOp .neq 83 xo (.const .nilIface) ty',ty,ps,af,gd⟩:Oper),⟨fpO (AS.ev ⟨tm,hp,gn,us,L⟩) (⟨some t,.binOp .neq 83 xo (.const .nilIface) ty',ty,ps,af,gd⟩:Oper),[],[],.c (.v (.bool false))⟩) H) r ⟨upd tm t (.c (.v (.bool false))),hp,gn,us,L⟩)
 (ht:Nat.blt t L=true:=by exact rfl) (hg:gw ops tm (⟨some t,.binOp .neq 83 xo (.const .nilIface) ty',ty,ps,af,gd⟩:Oper)=some true:=by exact rfl) (hx:AS.ev ⟨tm,hp,gn,us,L⟩ xo=.c (.v .nilIface):=by exact rfl)
 (hc:chk dr ops i (⟨some t,.binOp .neq 83 xo (.const .nilIface) ty',ty,ps,af,gd⟩:Oper) ⟨fpO (AS.ev ⟨tm,hp,gn,us,L⟩) (⟨some t,.binOp .neq 83 xo (.const .nilIface) ty',ty,ps,af,gd⟩:Oper),[],[],.c (.v (.bool false))⟩ H=true:=by first|(with_reducible exact bv)|kernel_rfl):WalkO prog ops Q C dr H i (⟨some t,.binOp .neq 83 xo (.const .nilIface) ty',ty,ps,af,gd⟩:Oper) r ⟨tm,hp,gn,us,L⟩:=⟨fun hop=>by
 refine⟨_,_,hop,oe (y:=.bool false) hop hg rfl fun ev w he=>?_,fun n hn=>absurd hn List.not_mem_nil,ep hc,cQ ?_⟩
 ·have key:∀o'∈#[xo,(.const .nilIface:Operand)],(AS.ev ⟨tm,hp,gn,us,L⟩ o'=.c (.v .nilIface))→ev o'=.nilIface:=fun o' ho' hv=>by
   obtain⟨St,φ,K,h1⟩:=he o' ho'
   rw [hv] at h1
   simp only [VR,CR] at h1
   exact h1.1
  exact zu8 rfl krq ev w (key xo (by simp) hx) (key _ (by simp) rfl)
 ·show Walk prog ops Q C dr _ r (AS.put _ (some t) _)
  rw [d5 (by exact d4 ht)];exact h⟩
end
theorem zv8 {s:ByteArray}(hs:s.size≤1048576)(h0:0<s.size)(h47:bAt s 0=47):Ctr prog 40 [.c (.v (.string s)),.c (.v (.bool true))] [] (.tu [.ag [.v (.int .i64 (ie s true).k),.v (.int .i64 (ie s true).n),.v (.string (ie s true).s)],.c (.v (.int .i64 ((ie s true).e:Int)))]) []:=by
 have ce:=nx hs h0
 rw [tok_R h47]
 rw [h47] at ce
 have hr:=bP (p:=neB 47) (s:=s) s.size 1 omq omq
 have g1:=hr.1
 have g2:=hr.2.1
 clear hr
 generalize bL (neB 47) s s.size 1=e at ce g1 g2 ⊢
 by_cases he:e=s.size
 ·rw [if_pos he] at ce ⊢
  refine az func40 rfl rfl ?_
  repeat' (first|(apply ay;first|(refine aK ?_ ?_<;>intro hG<;>(try cases hG))|refine ak ?_|refine ai ?_|refine aR ?_|refine aB ?_|refine bJ ?_|refine bV ?_)|refine aj ?_|refine ab ?_|refine aa fun C=>?_|refine ac ?_|refine ah ?_)
  refine ae rqf (fun hC=>?_) fun hC=>by exfalso;simp at hC;omega
  repeat' (first|(apply ay;first|refine bH ?_|(refine aK ?_ ?_<;>intro hG<;>(try cases hG))|refine ak ?_|refine cI (v:=.tu _) ?_|refine ai ?_|refine db ce ?_|refine bh ?_|refine bI ?_|refine aB ?_|refine b9 ?_|refine au ?_)|refine aj ?_|refine ab ?_|refine aa fun C=>?_|refine ac ?_|refine aq rfl ?_)
  exact rtq6
 ·rw [if_neg he] at ce ⊢
  have hz:=bO (s:=s) (a:=1) (b:=e) g1 g2
  have cr:=qD (s:=bz s 1 e) omq
  cases hb:decide (1≤(bz s 1 e).size)&&dE 47 (bz s 1 e) with
  | false =>
   rw [hb] at cr
   rw [if_neg (by simp)]
   refine az func40 rfl rfl ?_
   repeat' (first|(apply ay;first|(refine aK ?_ ?_<;>intro hG<;>(try cases hG))|refine ak ?_|refine ai ?_|refine aR ?_|refine aB ?_|refine bJ ?_|refine bV ?_)|refine aj ?_|refine ab ?_|refine aa fun C=>?_|refine ac ?_|refine ah ?_)
   refine ae rqf (fun hC=>?_) fun hC=>by exfalso;simp at hC;omega
   repeat' (first|(apply ay;first|(refine aK ?_ ?_<;>intro hG<;>(try cases hG))|refine ak ?_|refine cI (v:=.tu _) ?_|refine ai ?_|refine db ce ?_|refine aH cr ?_|refine bh ?_|refine bI ?_|refine aB ?_|refine b9 ?_|refine au ?_)|refine aj ?_|refine ab ?_|refine aa fun C=>?_|refine ac ?_|refine aq rfl ?_)
   exact rtq6
  | true =>
   rw [hb] at cr
   rw [if_pos rfl]
   have he1:((e+1:Nat):Int)=((bz s 1 e).size:Int)+2:=by omega
   rw [he1]
   refine az func40 rfl rfl ?_
   repeat' (first|(apply ay;first|(refine aK ?_ ?_<;>intro hG<;>(try cases hG))|refine ak ?_|refine ai ?_|refine aR ?_|refine aB ?_|refine bJ ?_|refine bV ?_)|refine aj ?_|refine ab ?_|refine aa fun C=>?_|refine ac ?_|refine ah ?_)
   refine ae rqf (fun hC=>?_) fun hC=>by exfalso;simp at hC;omega
   repeat' (first|(apply ay;first|(refine aK ?_ ?_<;>intro hG<;>(try cases hG))|refine ak ?_|refine cI (v:=.tu _) ?_|refine ai ?_|refine db ce ?_|refine aH cr ?_|refine a7 ?_|refine bh ?_|refine aw ?_|refine bI ?_|refine aB ?_|refine b9 ?_|refine au ?_)|refine aj ?_|refine ab ?_|refine aa fun C=>?_|refine ac ?_|refine al ?_|refine ar rfl ?_)
   exact rtq6
theorem zw8 {s:ByteArray}(hs:s.size≤1048576)(h0:0<s.size)(h39:bAt s 0=39)(rex:Bool):Ctr prog 40 [.c (.v (.string s)),.c (.v (.bool rex))] [] (.tu [.ag [.v (.int .i64 (ie s rex).k),.v (.int .i64 (ie s rex).n),.v (.string (ie s rex).s)],.c (.v (.int .i64 ((ie s rex).e:Int)))]) []:=by
 have ce:=nx hs h0
 have cd:=fT (bAt s 0)
 have cl:=gL (bAt s 0)
 rw [show cW (bAt s 0)=false by simp [cW];omega] at cd
 rw [show ic (bAt s 0)=false by simp [ic];omega] at cl
 rw [tok_Q h39]
 rw [h39] at ce
 have hr:=bP (p:=neB 39) (s:=s) s.size 1 omq omq
 have g1:=hr.1
 have g2:=hr.2.1
 clear hr
 generalize bL (neB 39) s s.size 1=e at ce g1 g2 ⊢
 by_cases he:e=s.size
 ·rw [if_pos he] at ce ⊢
  cases rex<;>refine az func40 rfl rfl ?_
  all_goals
   repeat' (first|(apply ay;first|refine bH ?_|(refine aK ?_ ?_<;>intro hG<;>(try cases hG))|refine ak ?_|refine cI (v:=.tu _) ?_|refine ai ?_|refine db ce ?_|refine aH cd ?_|refine aH cl ?_|refine bh ?_|refine aR ?_|refine bI ?_|refine aB ?_|refine b9 ?_|refine bJ ?_|refine bV ?_|refine au ?_)|refine aj ?_|refine ab ?_|refine aa fun C=>?_|refine ac ?_|refine ah ?_|refine al ?_|(refine ae rqf ?_ ?_<;>intro hC<;>(try cases hC)))
   all_goals first
    | (exfalso;simp only [beq_iff_eq,beq_eq_false_iff_ne,ne_eq] at *;omega)
    | (refine am ?_;refine bA rfl (cg (aG (bi (aO rfl (aO rfl (aO rfl aQ)))) (aG aJ bj))) ⟨?_,rfl⟩;rfl)
 ·rw [if_neg he] at ce ⊢
  have hz:=bO (s:=s) (a:=1) (b:=e) g1 g2
  have cr:=sk (s:=bz s 1 e) omq
  cases hb:dE 39 (bz s 1 e) with
  | false =>
   rw [hb] at cr
   rw [if_neg (by simp)]
   cases rex<;>refine az func40 rfl rfl ?_
   all_goals
    repeat' (first|(apply ay;first|refine bH ?_|(refine aK ?_ ?_<;>intro hG<;>(try cases hG))|refine ak ?_|refine cI (v:=.tu _) ?_|refine ai ?_|refine db ce ?_|refine aH cd ?_|refine aH cl ?_|refine aH cr ?_|refine bh ?_|refine aR ?_|refine bI ?_|refine aB ?_|refine b9 ?_|refine bJ ?_|refine bV ?_|refine au ?_)|refine aj ?_|refine ab ?_|refine aa fun C=>?_|refine ac ?_|refine ah ?_|refine al ?_|(refine ae rqf ?_ ?_<;>intro hC<;>(try cases hC)))
    all_goals first
     | (exfalso;simp only [beq_iff_eq,beq_eq_false_iff_ne,ne_eq] at *;omega)
     | (refine am ?_;refine bA rfl (cg (aG (bi (aO rfl (aO rfl (aO rfl aQ)))) (aG aJ bj))) ⟨?_,rfl⟩;rfl)
  | true =>
   rw [hb] at cr
   rw [if_pos rfl]
   have he1:((e+1:Nat):Int)=((bz s 1 e).size:Int)+2:=by omega
   rw [he1]
   cases rex<;>refine az func40 rfl rfl ?_
   all_goals
    repeat' (first|(apply ay;first|refine bH ?_|(refine aK ?_ ?_<;>intro hG<;>(try cases hG))|refine ak ?_|refine cI (v:=.tu _) ?_|refine ai ?_|refine db ce ?_|refine aH cd ?_|refine aH cl ?_|refine aH cr ?_|refine a7 ?_|refine bh ?_|refine aR ?_|refine aw ?_|refine bI ?_|refine aB ?_|refine b9 ?_|refine bJ ?_|refine bV ?_|refine au ?_)|refine aj ?_|refine ab ?_|refine aa fun C=>?_|refine ac ?_|refine ah ?_|refine al ?_|(refine ae rqf ?_ ?_<;>intro hC<;>(try cases hC)))
    all_goals first
     | (exfalso;simp only [beq_iff_eq,beq_eq_false_iff_ne,ne_eq] at *;omega)
     | (refine am ?_;refine bA rfl (cg (aG (bi (aO rfl (aO rfl (aO rfl aQ)))) (aG aJ bj))) ⟨?_,rfl⟩;rfl)
theorem zx8 {s:ByteArray}(hs:s.size≤1048576)(h0:0<s.size)(rex:Bool)(h1:cW (bAt s 0)=false)(h2:ic (bAt s 0)=false)(h3:bAt s 0≠39)(h4:¬(bAt s 0=47∧rex=true)):Ctr prog 40 [.c (.v (.string s)),.c (.v (.bool rex))] [] (.tu [.ag [.v (.int .i64 (ie s rex).k),.v (.int .i64 (ie s rex).n),.v (.string (ie s rex).s)],.c (.v (.int .i64 ((ie s rex).e:Int)))]) []:=by
 have cd:=fT (bAt s 0)
 have cl:=gL (bAt s 0)
 have cm:=zp hs
 rw [tok_M h0 h1 h2 h3 h4]
 rw [h1] at cd
 rw [h2] at cl
 cases rex with
 | false =>
  refine az func40 rfl rfl ?_
  repeat' (first|(apply ay;first|refine bH ?_|(refine aK ?_ ?_<;>intro hG<;>(try cases hG))|refine ak ?_|refine ai ?_|refine aH cd ?_|refine aH cl ?_|refine aH cm ?_|refine a7 ?_|refine bh ?_|refine aR ?_|refine aB ?_|refine bJ ?_|refine bV ?_|refine au ?_)|refine aj ?_|refine ab ?_|refine aa fun C=>?_|refine ac ?_|refine ah ?_|refine al ?_|(refine ae rqf ?_ ?_<;>intro hC<;>(try cases hC)))
  all_goals first
   | (exfalso;simp only [beq_iff_eq,beq_eq_false_iff_ne,ne_eq] at *;omega)
   | (refine am ?_;refine bA rfl (cg (aG (bi (aO rfl (aO rfl (aO rfl aQ)))) (aG aJ bj))) ⟨?_,rfl⟩;rfl)
 | true =>
  have h5:bAt s 0≠47:=fun h=>h4 ⟨h,rfl⟩
  refine az func40 rfl rfl ?_
  repeat' (first|(apply ay;first|(refine aK ?_ ?_<;>intro hG<;>(try cases hG))|refine ak ?_|refine ai ?_|refine aH cd ?_|refine aH cl ?_|refine aH cm ?_|refine a7 ?_|refine bh ?_|refine aR ?_|refine aB ?_|refine bJ ?_|refine bV ?_|refine au ?_)|refine aj ?_|refine ab ?_|refine aa fun C=>?_|refine ac ?_|refine ah ?_|refine al ?_|(refine ae rqf ?_ ?_<;>intro hC<;>(try cases hC)))
  all_goals first
   | (exfalso;simp only [beq_iff_eq,beq_eq_false_iff_ne,ne_eq] at *;omega)
   | (refine am ?_;refine bA rfl (cg (aG (bi (aO rfl (aO rfl (aO rfl aQ)))) (aG aJ bj))) ⟨?_,rfl⟩;rfl)
theorem zy8 {s:ByteArray}(hs:s.size≤1048576)(h0:0<s.size)(rex:Bool)(h2:ic (bAt s 0)=true):Ctr prog 40 [.c (.v (.string s)),.c (.v (.bool rex))] [] (.tu [.ag [.v (.int .i64 (ie s rex).k),.v (.int .i64 (ie s rex).n),.v (.string (ie s rex).s)],.c (.v (.int .i64 ((ie s rex).e:Int)))]) []:=by
 have cd:=fT (bAt s 0)
 have cl:=gL (bAt s 0)
 have cw:=kE hs
 have h5:bAt s 0≠47:=by simp [ic] at h2;omega
 rw [tok_L h0 h2]
 rw [qN h2] at cd
 rw [h2] at cl
 have hr:=bP (p:=ldB) (s:=s) s.size 0 omq omq
 have g2:=hr.2.1
 clear hr
 generalize bL ldB s s.size 0=e at cw g2 ⊢
 by_cases he:e≤8
 ·rw [if_pos he]
  cases rex<;>refine az func40 rfl rfl ?_
  all_goals
   repeat' (first|(apply ay;first|refine bH ?_|(refine aK ?_ ?_<;>intro hG<;>(try cases hG))|refine ak ?_|refine ai ?_|refine aH cd ?_|refine aH cl ?_|refine aH cw ?_|refine bh ?_|refine aR ?_|refine aX ?_|refine aB ?_|refine bJ ?_|refine bV ?_|refine e8 ?_|refine au ?_)|refine aj ?_|refine ab ?_|refine aa fun C=>?_|refine ac ?_|refine ah ?_|refine al ?_|(refine ae rqf ?_ ?_<;>intro hC<;>(try cases hC)))
   all_goals first
    | (exfalso;simp only [beq_iff_eq,beq_eq_false_iff_ne,ne_eq,dqt,dqn] at *;omega)
    | (refine am ?_;refine bA rfl (cg (aG (bi (aO rfl (aO rfl (aO rfl aQ)))) (aG aJ bj))) ⟨?_,rfl⟩;rfl)
 ·rw [if_neg he]
  cases rex<;>refine az func40 rfl rfl ?_
  all_goals
   repeat' (first|(apply ay;first|refine bH ?_|(refine aK ?_ ?_<;>intro hG<;>(try cases hG))|refine ak ?_|refine ai ?_|refine aH cd ?_|refine aH cl ?_|refine aH cw ?_|refine bh ?_|refine aR ?_|refine aX ?_|refine aB ?_|refine bJ ?_|refine bV ?_|refine e8 ?_|refine au ?_)|refine aj ?_|refine ab ?_|refine aa fun C=>?_|refine ac ?_|refine ah ?_|refine al ?_|(refine ae rqf ?_ ?_<;>intro hC<;>(try cases hC)))
   all_goals first
    | (exfalso;simp only [beq_iff_eq,beq_eq_false_iff_ne,ne_eq,dqt,dqn] at *;omega)
    | (refine am ?_;refine bA rfl (cg (aG (bi (aO rfl (aO rfl (aO rfl aQ)))) (aG aJ bj))) ⟨?_,rfl⟩;rfl)
theorem zz8 {s:ByteArray}(hs:s.size≤1048576)(h0:0<s.size)(rex:Bool)(h1:cW (bAt s 0)=true):Ctr prog 40 [.c (.v (.string s)),.c (.v (.bool rex))] [] (.tu [.ag [.v (.int .i64 (ie s rex).k),.v (.int .i64 (ie s rex).n),.v (.string (ie s rex).s)],.c (.v (.int .i64 ((ie s rex).e:Int)))]) []:=by
 have cd:=fT (bAt s 0)
 rw [tok_D h0 h1]
 rw [h1] at cd
 have h5:bAt s 0≠47:=by simp [cW] at h1;omega
 have hst:=(fh h0 h1).2
 have hall:=wz (s:=s)
 cases rex<;>refine az func40 rfl rfl ?_
 case' true =>
  repeat' (first|(apply ay;first|(refine aK ?_ ?_<;>intro hG<;>(try cases hG))|refine ak ?_|refine ai ?_|refine aR ?_|refine aB ?_|refine bJ ?_|refine bV ?_)|refine aj ?_|refine ab ?_|refine aa fun C=>?_|refine ac ?_|refine ah ?_)
  refine ae rqf (fun hC=>by exfalso;simp at hC;omega) fun hC=>?_
  repeat' (first|(apply ay;first|refine ak ?_|refine ai ?_|refine aH cd ?_)|refine aj ?_|refine ab ?_|refine aa fun C=>?_|refine ac ?_|refine ah ?_|refine aq rfl ?_)
 case' false =>
  repeat' (first|(apply ay;first|refine bH ?_|(refine aK ?_ ?_<;>intro hG<;>(try cases hG))|refine ak ?_|refine ai ?_|refine aH cd ?_|refine aB ?_|refine bJ ?_|refine bV ?_)|refine aj ?_|refine ab ?_|refine aa fun C=>?_|refine ac ?_|refine ah ?_|refine aq rfl ?_|refine ar rfl ?_)
 all_goals
  refine aY (fun k:Nat=>⟨ft [(0,.c (.v (.string s))),(4,.c (.pt 4 0)),(9,.c (.v (.int .i64 (k:Int))))],eW [(4,4,⟨63,0,0,true,[.v (.int .i64 0),.v (.int .i64 0),.v (.string ⟨#[]⟩)]⟩)],0,[4],122⟩)
   (fun N k=>k+N=s.size∧bL cW s s.size 0=bL cW s N k) s.size 0 ⟨omq,rfl⟩ ?_ ?_
  ·show Gh _ _
   (refine aL _ _ rfl rfl ?_ ?_<;>exact tdy2)
  rintro N k ⟨hN,hr⟩
  try dsimp only
  clear cd
  have c2:=fT (bAt s k)
  by_cases hk:k<s.size∧cW (bAt s k)=true
  ·obtain⟨M,rfl⟩:∃M,N=M+1:=⟨N-1,omq⟩
   obtain⟨hk,hd⟩:=hk
   rw [hd] at c2
   have hq:bL cW s s.size 0=bL cW s M (k+1):=by rw [hr,gu hk hd]
   clear hr
   repeat' (first|(apply ay;first|refine bH ?_|(refine aK ?_ ?_<;>intro hG<;>(try cases hG))|refine ak ?_|refine ai ?_|refine aH c2 ?_|refine a7 ?_|refine aA ?_|refine aw ?_|refine aB ?_|refine bV ?_|refine e8 ?_)|refine aj ?_|refine ab ?_|refine aa fun C=>?_|refine ac ?_|refine ah ?_|refine al ?_|refine aE ?_|(refine ae rqf ?_ ?_<;>intro hC<;>(try cases hC)))
   all_goals first
    | (exfalso;simp only [dqt,dqn] at *;omega)
    | (refine⟨M,k+1,omq,⟨omq,hq⟩,?_⟩;show Gh _ _;(refine aL _ _ rfl rfl ?_ ?_<;>(repeat' (first|exact TmOk.nil|exact RwOk.nil|refine TmOk.cons ?_ ?_|refine RwOk.cons ?_ ?_|rfl|exact bg rfl (by assumption)|exact bg rfl (bytC_cloB _)|(refine rnV_id' rfl ?_;exact byc)|(refine cK ?_;first|rfl|omega|(rw [bB omq omq];omega))|(refine bg rfl ?_;exact byc)|exact dP rfl rfl|(refine rw_mid rqf rqf ?_ ?_<;>exact byc)|(refine rw_rn' rfl rfl ?_;simp;done)))))
  ·have hn:bL cW s s.size 0=k:=by rw [hr,fI hk]
   clear hr
   rw [hn] at hst hall ⊢
   have hkz:k≤s.size:=by omega
   have hz:=bO (s:=s) (a:=0) (b:=k) omq hkz
   have hv0:(0:Int)≤(lk (bz s 0 k):Int):=by omega
   by_cases hv:lk (bz s 0 k)<9223372036854775808
   ·have ca:=zv4 hall omq omq hv
    have ci:=pm (n:=(lk (bz s 0 k):Int)) omq omq
    generalize lk (bz s 0 k)=v at *
    by_cases hm:v≤2147483647
    ·cases he:(iO (v:Int)).toList==(bz s 0 k).toList with
     | true =>
      have he2:=he
      rw [bytes_beq,dqt] at he2
      rw [if_pos ⟨hm,he2⟩]
      by_cases hk2:k<s.size
      ·have hd:cW (bAt s k)=false:=by
        cases hd:cW (bAt s k) with
        | false=>rfl
        | true=>exact absurd ⟨hk2,hd⟩ hk
       rw [hd] at c2
       repeat' (first|(apply da;refine o_n0 ?_)|(apply ay;first|refine bH ?_|(refine aK ?_ ?_<;>intro hG<;>(try cases hG))|refine ak ?_|refine cI (v:=.tu _) ?_|refine ai ?_|refine aH c2 ?_|refine db ca ?_|refine a7 ?_|refine bh ?_|refine aA ?_|refine aB ?_|refine b9 ?_|refine bV ?_|refine e8 ?_|refine au ?_)|refine aj ?_|refine ab ?_|(apply da;first|refine fg ?_|(refine e7 ?_ ?_<;>intro hG<;>(try cases hG))|(apply dC;refine aD ?_)|refine ei ci ?_|(apply fF;refine aD ?_)|refine gC ?_|refine aD ?_)|refine aj ?_|refine ab ?_|refine aa fun C=>?_|refine av krq krq fun C=>?_|refine ac ?_|refine al ?_|refine aE ?_|(refine ae rqf ?_ ?_<;>intro hC<;>(try cases hC)))
       all_goals first
        | (exfalso;rw [bne,he] at hG;cases hG;done)
        | (exfalso;rw [he] at hC;cases hC;done)
        | (exfalso;simp only [dqt,dqn] at *;omega)
        | (refine am ?_;refine bA rfl (cg (aG (bi (aO rfl (aO rfl (aO rfl aQ)))) (aG aJ bj))) ⟨?_,rfl⟩;rfl)
      ·repeat' (first|(apply da;refine o_n0 ?_)|(apply ay;first|refine bH ?_|(refine aK ?_ ?_<;>intro hG<;>(try cases hG))|refine ak ?_|refine cI (v:=.tu _) ?_|refine ai ?_|refine aH c2 ?_|refine db ca ?_|refine a7 ?_|refine bh ?_|refine aA ?_|refine aw ?_|refine aB ?_|refine b9 ?_|refine bV ?_|refine e8 ?_|refine au ?_)|refine aj ?_|refine ab ?_|(apply da;first|refine fg ?_|(refine e7 ?_ ?_<;>intro hG<;>(try cases hG))|(apply dC;refine aD ?_)|refine ei ci ?_|(apply fF;refine aD ?_)|refine gC ?_|refine aD ?_)|refine aj ?_|refine ab ?_|refine aa fun C=>?_|refine av krq krq fun C=>?_|refine ac ?_|refine ah ?_|refine al ?_|refine aE ?_|(refine ae rqf ?_ ?_<;>intro hC<;>(try cases hC)))
       all_goals first
        | (exfalso;rw [bne,he] at hG;cases hG;done)
        | (exfalso;rw [he] at hC;cases hC;done)
        | (exfalso;simp only [dqt,dqn] at *;omega)
        | (refine am ?_;refine bA rfl (cg (aG (bi (aO rfl (aO rfl (aO rfl aQ)))) (aG aJ bj))) ⟨?_,rfl⟩;rfl)
     | false =>
      have he2:=he
      rw [bytes_beq,dqn] at he2
      rw [if_neg fun h=>he2 h.2]
      by_cases hk2:k<s.size
      ·have hd:cW (bAt s k)=false:=by
        cases hd:cW (bAt s k) with
        | false=>rfl
        | true=>exact absurd ⟨hk2,hd⟩ hk
       rw [hd] at c2
       repeat' (first|(apply da;refine o_n0 ?_)|(apply ay;first|refine bH ?_|(refine aK ?_ ?_<;>intro hG<;>(try cases hG))|refine ak ?_|refine cI (v:=.tu _) ?_|refine ai ?_|refine aH c2 ?_|refine db ca ?_|refine a7 ?_|refine bh ?_|refine aA ?_|refine aB ?_|refine b9 ?_|refine bV ?_|refine e8 ?_|refine au ?_)|refine aj ?_|refine ab ?_|(apply da;first|refine fg ?_|(refine e7 ?_ ?_<;>intro hG<;>(try cases hG))|(apply dC;refine aD ?_)|refine ei ci ?_|(apply fF;refine aD ?_)|refine gC ?_|refine aD ?_)|refine aj ?_|refine ab ?_|refine aa fun C=>?_|refine av krq krq fun C=>?_|refine ac ?_|refine al ?_|refine aE ?_|(refine ae rqf ?_ ?_<;>intro hC<;>(try cases hC)))
       all_goals first
        | (exfalso;rw [bne,he] at hG;cases hG;done)
        | (exfalso;rw [he] at hC;cases hC;done)
        | (exfalso;simp only [dqt,dqn] at *;omega)
        | (refine am ?_;refine bA rfl (cg (aG (bi (aO rfl (aO rfl (aO rfl aQ)))) (aG aJ bj))) ⟨?_,rfl⟩;rfl)
      ·repeat' (first|(apply da;refine o_n0 ?_)|(apply ay;first|refine bH ?_|(refine aK ?_ ?_<;>intro hG<;>(try cases hG))|refine ak ?_|refine cI (v:=.tu _) ?_|refine ai ?_|refine aH c2 ?_|refine db ca ?_|refine a7 ?_|refine bh ?_|refine aA ?_|refine aw ?_|refine aB ?_|refine b9 ?_|refine bV ?_|refine e8 ?_|refine au ?_)|refine aj ?_|refine ab ?_|(apply da;first|refine fg ?_|(refine e7 ?_ ?_<;>intro hG<;>(try cases hG))|(apply dC;refine aD ?_)|refine ei ci ?_|(apply fF;refine aD ?_)|refine gC ?_|refine aD ?_)|refine aj ?_|refine ab ?_|refine aa fun C=>?_|refine av krq krq fun C=>?_|refine ac ?_|refine ah ?_|refine al ?_|refine aE ?_|(refine ae rqf ?_ ?_<;>intro hC<;>(try cases hC)))
       all_goals first
        | (exfalso;rw [bne,he] at hG;cases hG;done)
        | (exfalso;rw [he] at hC;cases hC;done)
        | (exfalso;simp only [dqt,dqn] at *;omega)
        | (refine am ?_;refine bA rfl (cg (aG (bi (aO rfl (aO rfl (aO rfl aQ)))) (aG aJ bj))) ⟨?_,rfl⟩;rfl)
    ·rw [if_neg fun h=>hm h.1]
     by_cases hk2:k<s.size
     ·have hd:cW (bAt s k)=false:=by
       cases hd:cW (bAt s k) with
       | false=>rfl
       | true=>exact absurd ⟨hk2,hd⟩ hk
      rw [hd] at c2
      repeat' (first|(apply da;refine o_n0 ?_)|(apply ay;first|refine bH ?_|(refine aK ?_ ?_<;>intro hG<;>(try cases hG))|refine ak ?_|refine cI (v:=.tu _) ?_|refine ai ?_|refine aH c2 ?_|refine db ca ?_|refine a7 ?_|refine bh ?_|refine aA ?_|refine aB ?_|refine b9 ?_|refine bV ?_|refine e8 ?_|refine au ?_)|refine aj ?_|refine ab ?_|(apply da;first|refine fg ?_|(refine e7 ?_ ?_<;>intro hG<;>(try cases hG))|(apply dC;refine aD ?_)|refine ei ci ?_|(apply fF;refine aD ?_)|refine gC ?_|refine aD ?_)|refine aj ?_|refine ab ?_|refine aa fun C=>?_|refine av krq krq fun C=>?_|refine ac ?_|refine al ?_|refine aE ?_|(refine ae rqf ?_ ?_<;>intro hC<;>(try cases hC)))
      all_goals first
       | (exfalso;simp only [dqt,dqn] at *;omega)
       | (refine am ?_;refine bA rfl (cg (aG (bi (aO rfl (aO rfl (aO rfl aQ)))) (aG aJ bj))) ⟨?_,rfl⟩;rfl)
     ·repeat' (first|(apply da;refine o_n0 ?_)|(apply ay;first|refine bH ?_|(refine aK ?_ ?_<;>intro hG<;>(try cases hG))|refine ak ?_|refine cI (v:=.tu _) ?_|refine ai ?_|refine aH c2 ?_|refine db ca ?_|refine a7 ?_|refine bh ?_|refine aA ?_|refine aw ?_|refine aB ?_|refine b9 ?_|refine bV ?_|refine e8 ?_|refine au ?_)|refine aj ?_|refine ab ?_|(apply da;first|refine fg ?_|(refine e7 ?_ ?_<;>intro hG<;>(try cases hG))|(apply dC;refine aD ?_)|refine ei ci ?_|(apply fF;refine aD ?_)|refine gC ?_|refine aD ?_)|refine aj ?_|refine ab ?_|refine aa fun C=>?_|refine av krq krq fun C=>?_|refine ac ?_|refine ah ?_|refine al ?_|refine aE ?_|(refine ae rqf ?_ ?_<;>intro hC<;>(try cases hC)))
      all_goals first
       | (exfalso;simp only [dqt,dqn] at *;omega)
       | (refine am ?_;refine bA rfl (cg (aG (bi (aO rfl (aO rfl (aO rfl aQ)))) (aG aJ bj))) ⟨?_,rfl⟩;rfl)
   ·have ca:=zw4 hall omq omq hv
    generalize Lib.atoiSat (bz s 0 k).data.toList=y at ca
    rw [if_neg fun h=>hv omq]
    by_cases hk2:k<s.size
    ·have hd:cW (bAt s k)=false:=by
      cases hd:cW (bAt s k) with
      | false=>rfl
      | true=>exact absurd ⟨hk2,hd⟩ hk
     rw [hd] at c2
     repeat' (first|(apply da;refine o_nn ?_)|(apply ay;first|refine bH ?_|(refine aK ?_ ?_<;>intro hG<;>(try cases hG))|refine ak ?_|refine cI (v:=.tu _) ?_|refine ai ?_|refine aH c2 ?_|refine db ca ?_|refine a7 ?_|refine bh ?_|refine aA ?_|refine aB ?_|refine b9 ?_|refine bV ?_|refine e8 ?_|refine au ?_)|refine aj ?_|refine ab ?_|(apply da;first|refine fg ?_|(refine e7 ?_ ?_<;>intro hG<;>(try cases hG))|(apply dC;refine aD ?_)|refine aD ?_)|refine aj ?_|refine ab ?_|refine aa fun C=>?_|refine av krq krq fun C=>?_|refine ac ?_|refine aE ?_|(refine ae rqf ?_ ?_<;>intro hC<;>(try cases hC)))
     all_goals first
      | (exfalso;simp only [dqt,dqn] at *;omega)
      | (refine am ?_;refine bA rfl (cg (aG (bi (aO rfl (aO rfl (aO rfl aQ)))) (aG aJ bj))) ⟨?_,rfl⟩;rfl)
    ·repeat' (first|(apply da;refine o_nn ?_)|(apply ay;first|refine bH ?_|(refine aK ?_ ?_<;>intro hG<;>(try cases hG))|refine ak ?_|refine cI (v:=.tu _) ?_|refine ai ?_|refine aH c2 ?_|refine db ca ?_|refine a7 ?_|refine bh ?_|refine aA ?_|refine aw ?_|refine aB ?_|refine b9 ?_|refine bV ?_|refine e8 ?_|refine au ?_)|refine aj ?_|refine ab ?_|(apply da;first|refine fg ?_|(refine e7 ?_ ?_<;>intro hG<;>(try cases hG))|(apply dC;refine aD ?_)|refine aD ?_)|refine aj ?_|refine ab ?_|refine aa fun C=>?_|refine av krq krq fun C=>?_|refine ac ?_|refine ah ?_|refine al ?_|refine aE ?_|(refine ae rqf ?_ ?_<;>intro hC<;>(try cases hC)))
     all_goals first
      | (exfalso;simp only [dqt,dqn] at *;omega)
      | (refine am ?_;refine bA rfl (cg (aG (bi (aO rfl (aO rfl (aO rfl aQ)))) (aG aJ bj))) ⟨?_,rfl⟩;rfl)
theorem yq {s:ByteArray}(hs:s.size≤1048576)(h0:0<s.size)(rex:Bool):Ctr prog 40 [.c (.v (.string s)),.c (.v (.bool rex))] [] (.tu [.ag [.v (.int .i64 (ie s rex).k),.v (.int .i64 (ie s rex).n),.v (.string (ie s rex).s)],.c (.v (.int .i64 ((ie s rex).e:Int)))]) []:=by
 by_cases h4:bAt s 0=47∧rex=true
 ·obtain⟨h47,rfl⟩:=h4
  exact zv8 hs h0 h47
 ·cases h1:cW (bAt s 0) with
  | true=>exact zz8 hs h0 rex h1
  | false =>
   cases h2:ic (bAt s 0) with
   | true=>exact zy8 hs h0 rex h2
   | false =>
    by_cases h3:bAt s 0=39
    ·exact zw8 hs h0 h3 rex
    ·exact zx8 hs h0 rex h1 h2 h3 h4
def fM:List T3→Bool
 | []=>false
 | [t]=>oT t.1 t.2.2
 | _ :: l=>fM l
theorem fE:∀(l:List T3) (t:T3),fM (l++[t])=oT t.1 t.2.2
 | [],t=>rfl
 | [x],t=>rfl
 | x :: y :: l,t=>by
  show fM ((y :: l)++[t])=_
  exact fE (y :: l) t
theorem rF (k n:Int)(s:ByteArray)(hn:bY k n s=true):((k==5)&&((n==0)&&(s.toList==(⟨#[126]⟩:ByteArray).toList)))=oT k s:=by
 rw [bytes_beq]
 unfold oT
 by_cases h5:k=5
 ·subst h5
  have h:eI s=true∧n=0:=by simpa [bY] using hn
  obtain⟨-,rfl⟩:=h
  simp
 ·simp [h5]
theorem oP {m:List T3}{t:T3}:ij (owL ((m++[t]).map T3.E)) (m.length*3) (prog.cellsOf 63)=[.v (.int .i64 t.1),.v (.int .i64 t.2.1),.v (.string t.2.2)]:=by
 have hc:prog.cellsOf 63=3:=by kernel_rfl
 have hl:∀l:List T3,(owL (l.map T3.E)).length=l.length*3:=fun l=>by
  induction l with
  | nil=>rfl
  | cons x l ih =>
   show (owE x.E++owL (l.map T3.E)).length=_
   rw [lla,ih,List.length_cons]
   show 3+_=_;omega
 rw [hc,List.map_append,fG]
 unfold ij
 rw [←hl m,List.drop_left]
 rfl
theorem iH {s:ByteArray}(hs:s.size≤1048576):Ctr prog 18 [.c (.v (.string s))] [] (.tu [.c (.ow 63 (i6 s).1.length 3 (owL (i6 s).1)),.c (.v (.int .i64 (i6 s).2))]) []:=by
 unfold i6
 obtain⟨⟨L,P⟩,hL⟩:∃r,uf s (eV s 0) false []=r:=⟨_,rfl⟩
 rw [hL]
 dsimp only
 refine az func18 rfl rfl ?_
 repeat' (first|(apply ay;refine ai ?_)|refine aj ?_|refine ab ?_|refine aa fun C=>?_|refine ac ?_|refine ah ?_)
 refine aY (fun d:Nat×List T3=>⟨ft [(0,.c (.v (.string s))),(4,.c (.sl 9 (d.2.map T3.E).length)),(5,.c (.v (.int .i64 (d.1:Int))))],eW [(9,9,⟨63,3,(d.2.map T3.E).length,false,owL (d.2.map T3.E)⟩)],0,[9],78⟩)
  (fun N d=>d.1+N=s.size∧(d.2.map T3.E).length≤2000∧(∀t∈d.2,bY t.1 t.2.1 t.2.2=true)∧uf s (eV s d.1) (fM d.2) (d.2.map T3.E)=(L,P)) s.size (0,[]) ⟨by dsimp only;omega,Nat.zero_le _,fun _ h=>absurd h List.not_mem_nil,hL⟩ ?_ ?_
 ·refine (kz 9 (t:=4) 63 3 rfl rfl).trans ?_
  show Gh _ _
  (refine aL _ _ rfl rfl ?_ ?_<;>exact tdy2)
 rintro N ⟨k,out⟩ ⟨hN,hl,hok,hI⟩
 dsimp only at hN hl hok hI ⊢
 clear hL
 repeat' (first|(apply ay;first|refine ak ?_|refine a7 ?_|refine aA ?_)|refine aj ?_|refine ab ?_|refine aa fun C=>?_|refine ac ?_)
 refine ae rqf (fun h1=>?_) fun h1=>?_
 ·have hk:k<s.size:=by simpa using h1
  repeat' (first|(apply ay;first|refine ak ?_|refine ai ?_|refine aR ?_|refine bV ?_)|refine aj ?_|refine ab ?_|refine aa fun C=>?_|refine ac ?_|refine ah ?_|refine al ?_)
  refine ae rqf (fun h32=>?_) fun n32=>?_
  ·rw [jk hk (by simp at h32;simp [blB];omega)] at hI
   repeat' (first|(apply ay;first|refine ak ?_|refine ai ?_|refine aw ?_)|refine aj ?_|refine ab ?_|refine aa fun C=>?_|refine ac ?_|refine al ?_|refine aE ?_|refine aq rfl ?_)
   refine⟨N-1,(k+1,out),omq,⟨by dsimp only;omega,hl,hok,hI⟩,?_⟩
   show Gh _ _
   (refine aL _ _ rfl rfl ?_ ?_<;>exact tdy2)
  repeat' (first|(apply ay;first|refine ai ?_|refine aR ?_)|refine aj ?_|refine ab ?_|refine aa fun C=>?_|refine ac ?_)
  refine ae rqf (fun h9=>?_) fun n9=>?_
  ·rw [jk hk (by simp at h9;simp [blB];omega)] at hI
   repeat' (first|(apply ay;first|refine ak ?_|refine ai ?_|refine aw ?_)|refine aj ?_|refine ab ?_|refine aa fun C=>?_|refine ac ?_|refine al ?_|refine aE ?_|refine aq rfl ?_)
   refine⟨N-1,(k+1,out),omq,⟨by dsimp only;omega,hl,hok,hI⟩,?_⟩
   show Gh _ _
   (refine aL _ _ rfl rfl ?_ ?_<;>exact tdy2)
  repeat' (first|(apply ay;first|refine ai ?_|refine aR ?_)|refine aj ?_|refine ab ?_|refine aa fun C=>?_|refine ac ?_)
  refine ae rqf (fun h10=>?_) fun n10=>?_
  ·rw [jk hk (by simp at h10;simp [blB];omega)] at hI
   repeat' (first|(apply ay;first|refine ak ?_|refine ai ?_|refine aw ?_)|refine aj ?_|refine ab ?_|refine aa fun C=>?_|refine ac ?_|refine al ?_|refine aE ?_|refine aq rfl ?_)
   refine⟨N-1,(k+1,out),omq,⟨by dsimp only;omega,hl,hok,hI⟩,?_⟩
   show Gh _ _
   (refine aL _ _ rfl rfl ?_ ?_<;>exact tdy2)
  repeat' (first|(apply ay;first|refine ai ?_|refine aR ?_)|refine aj ?_|refine ab ?_|refine aa fun C=>?_)
  refine ae rqf (fun h13=>?_) fun n13=>?_
  ·rw [jk hk (by simp at h13;simp [blB];omega)] at hI
   repeat' (first|(apply ay;first|refine ak ?_|refine ai ?_|refine aw ?_)|refine aj ?_|refine ab ?_|refine aa fun C=>?_|refine ac ?_|refine aE ?_)
   refine⟨N-1,(k+1,out),omq,⟨by dsimp only;omega,hl,hok,hI⟩,?_⟩
   show Gh _ _
   (refine aL _ _ rfl rfl ?_ ?_<;>exact tdy2)
  repeat' (first|(apply ay;first|refine ai ?_|refine aR ?_)|refine aj ?_|refine ab ?_|refine aa fun C=>?_|refine ac ?_)
  refine ae rqf (fun h35=>?_) fun n35=>?_
  ·have h35':bAt s k=35:=by simp at h35;omega
   have c1:Ctr prog 39 [.c (.v (.string (bz s k s.size))),.c (.v (.int .u8 10))] [] _ []:=fU (bz s k s.size) (c:=10) omq
   rw [ww omq omq] at c1
   have hr:=bP (p:=neB 10) (s:=s) s.size k omq omq
   have g1:=hr.1
   have g2:=hr.2.1
   clear hr
   by_cases he:bL (neB 10) s s.size k<s.size
   ·rw [ue hk h35' he] at hI
    rw [if_pos he] at c1
    generalize bL (neB 10) s s.size k=e at *
    have he2:(k:Int)+(((e-k:Nat):Int)+1)=((e+1:Nat):Int):=by omega
    repeat' (first|(apply ay;first|refine ak ?_|refine ai ?_|refine aH c1 ?_|refine aA ?_|refine aw ?_|refine gK ?_)|refine aj ?_|refine ab ?_|refine aa fun C=>?_|refine ac ?_|refine al ?_|refine aE ?_|(refine ae rqf ?_ ?_<;>intro hC<;>(try cases hC)))
    all_goals first
     | (exfalso;simp only [dqt] at hC;omega)
     | (refine⟨s.size-(e+1),(e+1,out),omq,⟨by dsimp only;omega,hl,hok,hI⟩,?_⟩
        dsimp only
        rw [←he2]
        show Gh _ _
        (refine aL _ _ rfl rfl ?_ ?_<;>(repeat' (first|exact TmOk.nil|exact RwOk.nil|refine TmOk.cons ?_ ?_|refine RwOk.cons ?_ ?_|rfl|exact bg rfl (by assumption)|exact bg rfl (bytC_cloB _)|(refine rnV_id' rfl ?_;exact byc)|(refine cK ?_;first|rfl|omega|(rw [bB omq omq];omega))|(refine bg rfl ?_;exact byc)|exact dP rfl rfl|(refine rw_mid rqf rqf ?_ ?_<;>exact byc)|(refine rw_rn' rfl rfl ?_;simp;done)))))
   ·rw [lZ hk h35'] at hI
    rw [if_neg he] at c1
    have he2:bL (neB 10) s s.size k=s.size:=by omega
    rw [he2] at hI
    have he3:(k:Int)+((((s.size:Int)-(k:Int))-1)+1)=((s.size:Nat):Int):=by omega
    repeat' (first|(apply ay;first|refine ak ?_|refine ai ?_|refine aH c1 ?_|refine a7 ?_|refine aA ?_|refine aw ?_|refine cu ?_|refine gK ?_)|refine aj ?_|refine ab ?_|refine aa fun C=>?_|refine ac ?_|refine aE ?_|(refine ae rqf ?_ ?_<;>intro hC<;>(try cases hC)))
    all_goals
     refine⟨0,(s.size,out),omq,⟨by dsimp only;omega,hl,hok,hI⟩,?_⟩
     dsimp only
     rw [←he3]
     show Gh _ _
     (refine aL _ _ rfl rfl ?_ ?_<;>exact tdy2)
  ·rw [gO fun ⟨_,h⟩=>by
    simp only [beq_eq_false_iff_ne,ne_eq] at n32 n9 n10 n13 n35
    simp only [blB,Bool.or_eq_true,dqt] at h
    omega] at hI
   have hz:=bO (s:=s) (a:=k) (b:=s.size) omq (nlr _)
   have c2:=yq (s:=bz s k s.size) omq omq (fM out)
   have hcut:=zj (rex:=fM out) hk
   have hy:=qI (rex:=fM out) (out:=out.map T3.E) hk
   have hn:=zb2 (rex:=fM out) (out:=out.map T3.E) hk
   have hlt:=oa (rex:=fM out) (show 0<(bz s k s.size).size by omega)
   rw [hcut] at hy hn
   have hsnoc:=fun t=>fE out t
   by_cases hq:(em (bz s k s.size) 0 (fM out)).ok=true
   ·rw [zq hq] at c2
    unfold Tk.ok Tk.E at hy
    unfold Tk.ok at hn hq
    obtain⟨⟨q1,q2,q3,e⟩,hqe⟩:∃q,em (bz s k s.size) 0 (fM out)=q:=⟨_,rfl⟩
    rw [hqe] at c2 hlt hy hn hq
    dsimp only at c2 hlt hy hn hq
    clear hqe hcut
    have hsn:=hsnoc (q1,q2,q3)
    dsimp only at hsn
    clear hsnoc
    by_cases hm:(out.map T3.E).length=2000
    ·rw [hn fun h=>h.2 hm] at hI
     clear hn hy
     obtain⟨rfl,rfl⟩:=Prod.mk.injEq ..▸hI
     have hne:out≠[]:=fun h=>by subst h;cases hm
     obtain⟨m,t,rfl⟩:∃m t,out=m++[t]:=⟨out.dropLast,out.getLast hne,(List.dropLast_concat_getLast hne).symm⟩
     rw [fE,←rF t.1 t.2.1 t.2.2 (hok t (by simp))] at c2
     have hj:(((m++[t]).map T3.E).length:Int)-1=(m.length:Int):=by simp
     have hsub:=oP (m:=m) (t:=t)
     repeat' (first|(apply ay;refine qM ?_)|(apply ay;first|refine bH ?_|(refine aK ?_ ?_<;>intro hG<;>(try cases hG))|refine ak ?_|refine cI (v:=.tu _) ?_|refine ai ?_|refine bM ?_|refine qi ?_|refine db c2 ?_|refine cJ ?_|refine dz ?_|refine bh ?_|refine eG ?_|refine ao ?_|refine aX ?_|refine aw ?_|refine aB ?_|refine b9 ?_|refine dA (v:=.ag _) ?_|refine cu ?_|refine bJ ?_|refine dT ?_|refine gK ?_|refine au ?_)|refine aj ?_|refine ab ?_|refine aa fun C=>?_|refine ac ?_|refine al ?_|(refine ae rqf ?_ ?_<;>intro hC<;>(try cases hC)))
     all_goals first
      | (exfalso;simp at hG;done)
      | (exfalso;simp only [beq_iff_eq,beq_eq_false_iff_ne,ne_eq,dqt,dqn] at *;omega)
      | (refine bc (kz 90000 (t:=2) 63 3 rfl rfl) ?_
         refine am ?_
         exact bA rfl (cg (aG (jg (bE (rw:=⟨63,3,0,false,[]⟩) rfl rfl rfl rfl aQ)) (aG aJ bj))) ⟨rfl,rfl⟩)
    ·rw [hy hq hm,←hsn,Nat.add_comm e k] at hI
     clear hn hy hsn
     have hok2:∀t∈out++[(q1,q2,q3)],bY t.1 t.2.1 t.2.2=true:=fun t ht=>by
      rcases List.mem_append.1 ht with ht|ht
      ·exact hok t ht
      ·rw [List.mem_singleton.1 ht];exact hq
     have hmap:(out++[(q1,q2,q3)]).map T3.E=out.map T3.E++[tokE q1 q2 q3]:=by rw [List.map_append];rfl
     rcases List.eq_nil_or_concat out with rfl|⟨m,t,rfl⟩
     ·have c2:Ctr prog 40 [_,.c (.v (.bool false))] [] _ []:=c2
      repeat' (first|(apply ay;first|refine bH ?_|(refine aK ?_ ?_<;>intro hG<;>(try cases hG))|refine ak ?_|refine cI (v:=.tu _) ?_|refine ai ?_|refine bM ?_|refine db c2 ?_|refine cJ ?_|refine dz ?_|refine bh ?_|refine ao ?_|refine aX ?_|refine aw ?_|refine aB ?_|refine b9 ?_|refine dA (v:=.ag _) ?_|refine bJ ?_|refine dT ?_|refine gK ?_)|refine aj ?_|refine ab ?_|refine aa fun C=>?_|refine ac ?_|refine al ?_|(refine ae rqf ?_ ?_<;>intro hC<;>(try cases hC)))
      all_goals first
       | (exfalso;simp at hG;done)
       | (exfalso;simp only [beq_iff_eq,beq_eq_false_iff_ne,ne_eq,dqt,dqn] at *;omega)
       | (refine⟨s.size-(k+e),(k+e,([]:List T3)++[(q1,q2,q3)]),omq,⟨by dsimp only;omega,by dsimp only;rw [hmap,lla,List.length_singleton];omega,hok2,by dsimp only;rw [hmap];exact hI⟩,?_⟩
          dsimp only
          rw [hmap,lla,List.length_singleton]
          (refine eL (fun j=>if j=9 then 73 else j) _ _ rfl rfl ?_ ?_<;>(repeat' (first|exact TmOk.nil|exact RwOk.nil|refine TmOk.cons ?_ ?_|refine RwOk.cons ?_ ?_|rfl|exact bg rfl (by assumption)|exact bg rfl (bytC_cloB _)|(refine rnV_id' rfl ?_;exact byc)|(refine cK ?_;first|rfl|omega|(rw [bB omq omq];omega))|(refine bg rfl ?_;exact byc)|exact dP rfl rfl|(refine rw_mid rqf rqf ?_ ?_<;>exact byc)|(refine rw_rn' rfl rfl ?_;simp;done))))
          all_goals exact fH (r:=⟨63,3,((([]:List T3)).map T3.E).length+1,false,owL ((([]:List T3)).map T3.E)++[.v (.int .i64 q1),.v (.int .i64 q2),.v (.string q3)]⟩) rfl (by rw [ss];rfl) (a8 _))
     ·rw [List.concat_eq_append] at *
      rw [fE,←rF t.1 t.2.1 t.2.2 (hok t (by simp))] at c2
      have hj:(((m++[t]).map T3.E).length:Int)-1=(m.length:Int):=by simp
      have hsub:=oP (m:=m) (t:=t)
      repeat' (first|(apply ay;refine qM ?_)|(apply ay;first|refine bH ?_|(refine aK ?_ ?_<;>intro hG<;>(try cases hG))|refine ak ?_|refine cI (v:=.tu _) ?_|refine ai ?_|refine bM ?_|refine qi ?_|refine db c2 ?_|refine cJ ?_|refine dz ?_|refine bh ?_|refine eG ?_|refine ao ?_|refine aX ?_|refine aw ?_|refine aB ?_|refine b9 ?_|refine dA (v:=.ag _) ?_|refine cu ?_|refine bJ ?_|refine dT ?_|refine gK ?_|refine au ?_)|refine aj ?_|refine ab ?_|refine aa fun C=>?_|refine ac ?_|refine al ?_|(refine ae rqf ?_ ?_<;>intro hC<;>(try cases hC)))
      all_goals first
       | (exfalso;simp at hG;done)
       | (exfalso;simp only [beq_iff_eq,beq_eq_false_iff_ne,ne_eq,dqt,dqn] at *;omega)
       | (refine⟨s.size-(k+e),(k+e,m++[t]++[(q1,q2,q3)]),omq,⟨by dsimp only;omega,by dsimp only;rw [hmap,lla,List.length_singleton];omega,hok2,by dsimp only;rw [hmap];exact hI⟩,?_⟩
          dsimp only
          rw [hmap,lla,List.length_singleton]
          (refine eL (fun j=>if j=9 then 73 else j) _ _ rfl rfl ?_ ?_<;>(repeat' (first|exact TmOk.nil|exact RwOk.nil|refine TmOk.cons ?_ ?_|refine RwOk.cons ?_ ?_|rfl|exact bg rfl (by assumption)|exact bg rfl (bytC_cloB _)|(refine rnV_id' rfl ?_;exact byc)|(refine cK ?_;first|rfl|omega|(rw [bB omq omq];omega))|(refine bg rfl ?_;exact byc)|exact dP rfl rfl|(refine rw_mid rqf rqf ?_ ?_<;>exact byc)|(refine rw_rn' rfl rfl ?_;simp;done))))
          exact fH (r:=⟨63,3,((m++[t]).map T3.E).length+1,false,owL ((m++[t]).map T3.E)++[.v (.int .i64 q1),.v (.int .i64 q2),.v (.string q3)]⟩) rfl (by rw [ss];rfl) (a8 _))
   ·have hI0:=zb5 hq
    rw [hn fun h=>hq h.1] at hI
    clear hn hy hq hcut hlt hsnoc
    obtain⟨rfl,rfl⟩:=Prod.mk.injEq ..▸hI
    obtain⟨⟨q1,q2,q3,e⟩,hqe⟩:∃q,ie (bz s k s.size) (fM out)=q:=⟨_,rfl⟩
    rw [hqe] at c2 hI0
    dsimp only at c2 hI0
    clear hqe
    subst hI0
    rcases List.eq_nil_or_concat out with rfl|⟨m,t,rfl⟩
    ·have c2:Ctr prog 40 [_,.c (.v (.bool false))] [] _ []:=c2
     repeat' (first|(apply ay;first|refine bH ?_|(refine aK ?_ ?_<;>intro hG<;>(try cases hG))|refine ak ?_|refine cI (v:=.tu _) ?_|refine ai ?_|refine db c2 ?_|refine cJ ?_|refine bh ?_|refine ao ?_|refine aX ?_|refine aB ?_|refine b9 ?_|refine dA (v:=.ag _) ?_|refine bJ ?_|refine gK ?_)|refine aj ?_|refine ab ?_|refine aa fun C=>?_|refine ac ?_|refine al ?_|(refine ae rqf ?_ ?_<;>intro hC<;>(try cases hC)))
     all_goals first
      | (exfalso;simp at hG;done)
      | (refine bc (kz 90000 (t:=2) 63 3 rfl rfl) ?_
         refine am ?_
         exact bA rfl (cg (aG (jg (bE (rw:=⟨63,3,0,false,[]⟩) rfl rfl rfl rfl aQ)) (aG aJ bj))) ⟨rfl,rfl⟩)
    ·rw [List.concat_eq_append] at *
     rw [fE,←rF t.1 t.2.1 t.2.2 (hok t (by simp))] at c2
     have hj:(((m++[t]).map T3.E).length:Int)-1=(m.length:Int):=by simp
     have hsub:=oP (m:=m) (t:=t)
     repeat' (first|(apply ay;refine qM ?_)|(apply ay;first|refine bH ?_|(refine aK ?_ ?_<;>intro hG<;>(try cases hG))|refine ak ?_|refine cI (v:=.tu _) ?_|refine ai ?_|refine qi ?_|refine db c2 ?_|refine cJ ?_|refine bh ?_|refine eG ?_|refine ao ?_|refine aX ?_|refine aB ?_|refine b9 ?_|refine dA (v:=.ag _) ?_|refine cu ?_|refine bJ ?_|refine gK ?_|refine au ?_)|refine aj ?_|refine ab ?_|refine aa fun C=>?_|refine ac ?_|refine al ?_|(refine ae rqf ?_ ?_<;>intro hC<;>(try cases hC)))
     all_goals first
      | (exfalso;simp at hG;done)
      | (refine bc (kz 90000 (t:=2) 63 3 rfl rfl) ?_
         refine am ?_
         exact bA rfl (cg (aG (jg (bE (rw:=⟨63,3,0,false,[]⟩) rfl rfl rfl rfl aQ)) (aG aJ bj))) ⟨rfl,rfl⟩)
 ·have hk:¬k<s.size:=by simpa using h1
  rw [gO fun h=>hk h.1,qH hk] at hI
  obtain⟨rfl,rfl⟩:=Prod.mk.injEq ..▸hI
  repeat' (first|(apply ay;first|refine ak ?_|refine ai ?_)|refine aj ?_|refine ab ?_|refine aa fun C=>?_|refine ac ?_|refine aE ?_)
  refine am ?_
  exact bA rfl (cg (aG (jg (bE (rw:=⟨63,3,(out.map T3.E).length,false,owL (out.map T3.E)⟩) rfl rfl rfl (a8 _) aQ)) (aG aJ bj))) ⟨rfl,rfl⟩
end Go.Proofs.YtomolhbkdhjofaaGreatDoor
