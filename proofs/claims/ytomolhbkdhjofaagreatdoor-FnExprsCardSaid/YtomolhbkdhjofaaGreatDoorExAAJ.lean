/- T -/
import Derived.Test.YtomolhbkdhjofaaGreatDoorExAAI
set_option maxHeartbeats 0
set_option maxRecDepth 100000
namespace Go.Proofs.YtomolhbkdhjofaaGreatDoor
open Go.RowKit Go.Proofs.Tryz
def eC:List T3→Bool
 | []=>false
 | [t]=>qJ t.1 t.2.2
 | _ :: l=>eC l
theorem ew:∀(l:List T3) (t:T3),eC (l++[t])=qJ t.1 t.2.2
 | [],t=>rfl
 | [x],t=>rfl
 | x :: y :: l,t=>by
  show eC ((y :: l)++[t])=_
  exact ew (y :: l) t
theorem qg (k n:Int)(s:ByteArray)(hn:cq k n s=true):((k==5)&&((n==0)&&(s.toList==(⟨#[126]⟩:ByteArray).toList)))=qJ k s:=by
 rw [bytes_beq]
 unfold qJ
 by_cases h5:k=5
 ·subst h5
  have h:il s=true∧n=0:=by simpa [cq] using hn
  obtain⟨-,rfl⟩:=h
  simp
 ·simp [h5]
theorem nq {m:List T3}{t:T3}:gc (owL ((m++[t]).map T3.E)) (m.length*3) (prog.cellsOf 63)=[.v (.int .i64 t.1),.v (.int .i64 t.2.1),.v (.string t.2.2)]:=by
 have hc:prog.cellsOf 63=3:=by kernel_rfl
 have hl:∀l:List T3,(owL (l.map T3.E)).length=l.length*3:=fun l=>by
  induction l with
  | nil=>rfl
  | cons x l ih =>
   show (owE x.E++owL (l.map T3.E)).length=_
   rw [List.length_append,ih,List.length_cons]
   show 3+_=_;omega
 rw [hc,List.map_append,eM]
 unfold gc
 rw [←hl m,List.drop_left]
 rfl
theorem lm {s:ByteArray}(hs:s.size≤1048576):Ctr prog 18 [.c (.v (.string s))] [] (.tu [.c (.ow 63 (nx s).1.length 3 (owL (nx s).1)),.c (.v (.int .i64 (nx s).2))]) []:=by
 unfold nx
 obtain⟨⟨L,P⟩,hL⟩:∃r,uM s (hQ s 0) false []=r:=⟨_,rfl⟩
 rw [hL]
 dsimp only
 refine av func18 rfl rfl ?_
 repeat' (first|(apply ay;refine ai ?_)|refine ak ?_|refine ab ?_|refine aa fun C=>?_|refine ac ?_|refine ah ?_)
 refine a8 (fun d:Nat×List T3=>⟨eX [(0,.c (.v (.string s))),(4,.c (.sl 9 (d.2.map T3.E).length)),(5,.c (.v (.int .i64 (d.1:Int))))],eJ [(9,9,⟨63,3,(d.2.map T3.E).length,false,owL (d.2.map T3.E)⟩)],0,[9],78⟩)
  (fun N d=>d.1+N=s.size∧(d.2.map T3.E).length≤2000∧(∀t∈d.2,cq t.1 t.2.1 t.2.2=true)∧uM s (hQ s d.1) (eC d.2) (d.2.map T3.E)=(L,P)) s.size (0,[]) ⟨by dsimp only;omega,Nat.zero_le _,fun _ h=>absurd h List.not_mem_nil,hL⟩ ?_ ?_
 ·refine (jt 9 (t:=4) 63 3 rfl rfl).trans ?_
  show Gh _ _
  (refine aM _ _ rfl rfl ?_ ?_<;>exact tdy2)
 rintro N ⟨k,out⟩ ⟨hN,hl,hok,hI⟩
 dsimp only at hN hl hok hI ⊢
 clear hL
 repeat' (first|(apply ay;first|refine al ?_|refine bK ?_|refine aD ?_)|refine ak ?_|refine ab ?_|refine aa fun C=>?_|refine ac ?_)
 refine ae (by rfl) (fun h1=>?_) fun h1=>?_
 ·have hk:k<s.size:=by simpa using h1
  repeat' (first|(apply ay;first|refine al ?_|refine ai ?_|refine aY ?_|refine cG ?_)|refine ak ?_|refine ab ?_|refine aa fun C=>?_|refine ac ?_|refine ah ?_|refine aj ?_)
  refine ae (by rfl) (fun h32=>?_) fun n32=>?_
  ·rw [i7 hk (by simp at h32;simp [blB];omega)] at hI
   repeat' (first|(apply ay;first|refine al ?_|refine ai ?_|refine aw ?_)|refine ak ?_|refine ab ?_|refine aa fun C=>?_|refine ac ?_|refine aj ?_|refine aA ?_|refine aq rfl ?_)
   refine⟨N-1,(k+1,out),omq,⟨by dsimp only;omega,hl,hok,hI⟩,?_⟩
   show Gh _ _
   (refine aM _ _ rfl rfl ?_ ?_<;>exact tdy2)
  repeat' (first|(apply ay;first|refine ai ?_|refine aY ?_)|refine ak ?_|refine ab ?_|refine aa fun C=>?_|refine ac ?_)
  refine ae (by rfl) (fun h9=>?_) fun n9=>?_
  ·rw [i7 hk (by simp at h9;simp [blB];omega)] at hI
   repeat' (first|(apply ay;first|refine al ?_|refine ai ?_|refine aw ?_)|refine ak ?_|refine ab ?_|refine aa fun C=>?_|refine ac ?_|refine aj ?_|refine aA ?_|refine aq rfl ?_)
   refine⟨N-1,(k+1,out),omq,⟨by dsimp only;omega,hl,hok,hI⟩,?_⟩
   show Gh _ _
   (refine aM _ _ rfl rfl ?_ ?_<;>exact tdy2)
  repeat' (first|(apply ay;first|refine ai ?_|refine aY ?_)|refine ak ?_|refine ab ?_|refine aa fun C=>?_|refine ac ?_)
  refine ae (by rfl) (fun h10=>?_) fun n10=>?_
  ·rw [i7 hk (by simp at h10;simp [blB];omega)] at hI
   repeat' (first|(apply ay;first|refine al ?_|refine ai ?_|refine aw ?_)|refine ak ?_|refine ab ?_|refine aa fun C=>?_|refine ac ?_|refine aj ?_|refine aA ?_|refine aq rfl ?_)
   refine⟨N-1,(k+1,out),omq,⟨by dsimp only;omega,hl,hok,hI⟩,?_⟩
   show Gh _ _
   (refine aM _ _ rfl rfl ?_ ?_<;>exact tdy2)
  repeat' (first|(apply ay;first|refine ai ?_|refine aY ?_)|refine ak ?_|refine ab ?_|refine aa fun C=>?_)
  refine ae (by rfl) (fun h13=>?_) fun n13=>?_
  ·rw [i7 hk (by simp at h13;simp [blB];omega)] at hI
   repeat' (first|(apply ay;first|refine al ?_|refine ai ?_|refine aw ?_)|refine ak ?_|refine ab ?_|refine aa fun C=>?_|refine ac ?_|refine aA ?_)
   refine⟨N-1,(k+1,out),omq,⟨by dsimp only;omega,hl,hok,hI⟩,?_⟩
   show Gh _ _
   (refine aM _ _ rfl rfl ?_ ?_<;>exact tdy2)
  repeat' (first|(apply ay;first|refine ai ?_|refine aY ?_)|refine ak ?_|refine ab ?_|refine aa fun C=>?_|refine ac ?_)
  refine ae (by rfl) (fun h35=>?_) fun n35=>?_
  ·have h35':bAt s k=35:=by simp at h35;omega
   have c1:Ctr prog 39 [.c (.v (.string (bu s k s.size))),.c (.v (.int .u8 10))] [] _ []:=eQ (bu s k s.size) (c:=10) omq
   rw [uV omq omq] at c1
   have hr:=bO (p:=neB 10) (s:=s) s.size k omq omq
   have g1:=hr.1
   have g2:=hr.2.1
   clear hr
   by_cases he:bI (neB 10) s s.size k<s.size
   ·rw [sd hk h35' he] at hI
    rw [if_pos he] at c1
    generalize bI (neB 10) s s.size k=e at *
    have he2:(k:Int)+(((e-k:Nat):Int)+1)=((e+1:Nat):Int):=by omega
    repeat' (first|(apply ay;first|refine al ?_|refine ai ?_|refine aF c1 ?_|refine aD ?_|refine aw ?_|refine jN ?_)|refine ak ?_|refine ab ?_|refine aa fun C=>?_|refine ac ?_|refine aj ?_|refine aA ?_|(refine ae (by rfl) ?_ ?_<;>intro hC<;>(try cases hC)))
    all_goals first
     | (exfalso;simp only [decide_eq_true_iff] at hC;omega)
     | (refine⟨s.size-(e+1),(e+1,out),omq,⟨by dsimp only;omega,hl,hok,hI⟩,?_⟩
        dsimp only
        rw [←he2]
        show Gh _ _
        (refine aM _ _ rfl rfl ?_ ?_<;>(repeat' (first|exact TmOk.nil|exact RwOk.nil|refine TmOk.cons ?_ ?_|refine RwOk.cons ?_ ?_|rfl|exact bq rfl (by assumption)|exact bq rfl (bytC_cloB _)|(refine rnV_id' rfl ?_;exact byc)|(refine cV ?_;first|rfl|omega|(rw [bM omq omq];omega))|(refine bq rfl ?_;exact byc)|exact d5 rfl rfl|(refine rw_mid (by rfl) (by rfl) ?_ ?_<;>exact byc)|(refine rw_rn' rfl rfl ?_;simp;done)))))
   ·rw [nZ hk h35'] at hI
    rw [if_neg he] at c1
    have he2:bI (neB 10) s s.size k=s.size:=by omega
    rw [he2] at hI
    have he3:(k:Int)+((((s.size:Int)-(k:Int))-1)+1)=((s.size:Nat):Int):=by omega
    repeat' (first|(apply ay;first|refine al ?_|refine ai ?_|refine aF c1 ?_|refine bK ?_|refine aD ?_|refine aw ?_|refine cJ ?_|refine jN ?_)|refine ak ?_|refine ab ?_|refine aa fun C=>?_|refine ac ?_|refine aA ?_|(refine ae (by rfl) ?_ ?_<;>intro hC<;>(try cases hC)))
    all_goals
     refine⟨0,(s.size,out),omq,⟨by dsimp only;omega,hl,hok,hI⟩,?_⟩
     dsimp only
     rw [←he3]
     show Gh _ _
     (refine aM _ _ rfl rfl ?_ ?_<;>exact tdy2)
  ·rw [iF fun ⟨_,h⟩=>by
    simp only [beq_eq_false_iff_ne,ne_eq] at n32 n9 n10 n13 n35
    simp only [blB,Bool.or_eq_true,decide_eq_true_iff] at h
    omega] at hI
   have hz:=bR (s:=s) (a:=k) (b:=s.size) omq (Nat.le_refl _)
   have c2:=wA (s:=bu s k s.size) omq omq (eC out)
   have hcut:=xy (rex:=eC out) hk
   have hy:=uO (rex:=eC out) (out:=out.map T3.E) hk
   have hn:=zx3 (rex:=eC out) (out:=out.map T3.E) hk
   have hlt:=pv (rex:=eC out) (show 0<(bu s k s.size).size by omega)
   rw [hcut] at hy hn
   have hsnoc:=fun t=>ew out t
   by_cases hq:(dU (bu s k s.size) 0 (eC out)).ok=true
   ·rw [xF hq] at c2
    unfold Tk.ok Tk.E at hy
    unfold Tk.ok at hn hq
    obtain⟨⟨q1,q2,q3,e⟩,hqe⟩:∃q,dU (bu s k s.size) 0 (eC out)=q:=⟨_,rfl⟩
    rw [hqe] at c2 hlt hy hn hq
    dsimp only at c2 hlt hy hn hq
    clear hqe hcut
    have hsn:=hsnoc (q1,q2,q3)
    dsimp only at hsn
    clear hsnoc
    by_cases hm:(out.map T3.E).length=2000
    ·rw [hn fun h=>h.2 hm] at hI
     clear hn hy
     obtain⟨rfl,rfl⟩:=Prod.mk.injEq ..▸hI
     have hne:out≠[]:=fun h=>by subst h;cases hm
     obtain⟨m,t,rfl⟩:∃m t,out=m++[t]:=⟨out.dropLast,out.getLast hne,(List.dropLast_concat_getLast hne).symm⟩
     rw [ew,←qg t.1 t.2.1 t.2.2 (hok t (by simp))] at c2
     have hj:(((m++[t]).map T3.E).length:Int)-1=(m.length:Int):=by simp
     have hsub:=nq (m:=m) (t:=t)
     repeat' (first|(apply ay;refine pB ?_)|(apply ay;first|refine bX ?_|(refine aR ?_ ?_<;>intro hG<;>(try cases hG))|refine al ?_|refine db (v:=.tu _) ?_|refine ai ?_|refine bN ?_|refine zjQ ?_|refine dn c2 ?_|refine dA ?_|refine fj ?_|refine bC ?_|refine eO ?_|refine ao ?_|refine a7 ?_|refine aw ?_|refine aB ?_|refine cE ?_|refine fQ (v:=.ag _) ?_|refine cJ ?_|refine bZ ?_|refine dX ?_|refine jN ?_|refine az ?_)|refine ak ?_|refine ab ?_|refine aa fun C=>?_|refine ac ?_|refine aj ?_|(refine ae (by rfl) ?_ ?_<;>intro hC<;>(try cases hC)))
     all_goals first
      | (exfalso;simp at hG;done)
      | (exfalso;simp only [beq_iff_eq,beq_eq_false_iff_ne,ne_eq,decide_eq_true_iff,decide_eq_false_iff_not] at *;omega)
      | (refine bk (jt 90000 (t:=2) 63 3 rfl rfl) ?_
         refine am ?_
         exact bv rfl (cf (aC (lC (ba (rw:=⟨63,3,0,false,[]⟩) rfl rfl rfl rfl aL)) (aC aH bh))) ⟨rfl,rfl⟩)
    ·rw [hy hq hm,←hsn,Nat.add_comm e k] at hI
     clear hn hy hsn
     have hok2:∀t∈out++[(q1,q2,q3)],cq t.1 t.2.1 t.2.2=true:=fun t ht=>by
      rcases List.mem_append.1 ht with ht|ht
      ·exact hok t ht
      ·rw [List.mem_singleton.1 ht];exact hq
     have hmap:(out++[(q1,q2,q3)]).map T3.E=out.map T3.E++[tokE q1 q2 q3]:=by rw [List.map_append];rfl
     rcases List.eq_nil_or_concat out with rfl|⟨m,t,rfl⟩
     ·have c2:Ctr prog 40 [_,.c (.v (.bool false))] [] _ []:=c2
      repeat' (first|(apply ay;first|refine bX ?_|(refine aR ?_ ?_<;>intro hG<;>(try cases hG))|refine al ?_|refine db (v:=.tu _) ?_|refine ai ?_|refine bN ?_|refine dn c2 ?_|refine dA ?_|refine fj ?_|refine bC ?_|refine ao ?_|refine a7 ?_|refine aw ?_|refine aB ?_|refine cE ?_|refine fQ (v:=.ag _) ?_|refine bZ ?_|refine dX ?_|refine jN ?_)|refine ak ?_|refine ab ?_|refine aa fun C=>?_|refine ac ?_|refine aj ?_|(refine ae (by rfl) ?_ ?_<;>intro hC<;>(try cases hC)))
      all_goals first
       | (exfalso;simp at hG;done)
       | (exfalso;simp only [beq_iff_eq,beq_eq_false_iff_ne,ne_eq,decide_eq_true_iff,decide_eq_false_iff_not] at *;omega)
       | (refine⟨s.size-(k+e),(k+e,([]:List T3)++[(q1,q2,q3)]),omq,⟨by dsimp only;omega,by dsimp only;rw [hmap,List.length_append,List.length_singleton];omega,hok2,by dsimp only;rw [hmap];exact hI⟩,?_⟩
          dsimp only
          rw [hmap,List.length_append,List.length_singleton]
          (refine ei (fun j=>if j=9 then 73 else j) _ _ rfl rfl ?_ ?_<;>(repeat' (first|exact TmOk.nil|exact RwOk.nil|refine TmOk.cons ?_ ?_|refine RwOk.cons ?_ ?_|rfl|exact bq rfl (by assumption)|exact bq rfl (bytC_cloB _)|(refine rnV_id' rfl ?_;exact byc)|(refine cV ?_;first|rfl|omega|(rw [bM omq omq];omega))|(refine bq rfl ?_;exact byc)|exact d5 rfl rfl|(refine rw_mid (by rfl) (by rfl) ?_ ?_<;>exact byc)|(refine rw_rn' rfl rfl ?_;simp;done))))
          all_goals exact gf (r:=⟨63,3,((([]:List T3)).map T3.E).length+1,false,owL ((([]:List T3)).map T3.E)++[.v (.int .i64 q1),.v (.int .i64 q2),.v (.string q3)]⟩) rfl (by rw [zkQ];rfl) (aV _))
     ·rw [List.concat_eq_append] at *
      rw [ew,←qg t.1 t.2.1 t.2.2 (hok t (by simp))] at c2
      have hj:(((m++[t]).map T3.E).length:Int)-1=(m.length:Int):=by simp
      have hsub:=nq (m:=m) (t:=t)
      repeat' (first|(apply ay;refine pB ?_)|(apply ay;first|refine bX ?_|(refine aR ?_ ?_<;>intro hG<;>(try cases hG))|refine al ?_|refine db (v:=.tu _) ?_|refine ai ?_|refine bN ?_|refine zjQ ?_|refine dn c2 ?_|refine dA ?_|refine fj ?_|refine bC ?_|refine eO ?_|refine ao ?_|refine a7 ?_|refine aw ?_|refine aB ?_|refine cE ?_|refine fQ (v:=.ag _) ?_|refine cJ ?_|refine bZ ?_|refine dX ?_|refine jN ?_|refine az ?_)|refine ak ?_|refine ab ?_|refine aa fun C=>?_|refine ac ?_|refine aj ?_|(refine ae (by rfl) ?_ ?_<;>intro hC<;>(try cases hC)))
      all_goals first
       | (exfalso;simp at hG;done)
       | (exfalso;simp only [beq_iff_eq,beq_eq_false_iff_ne,ne_eq,decide_eq_true_iff,decide_eq_false_iff_not] at *;omega)
       | (refine⟨s.size-(k+e),(k+e,m++[t]++[(q1,q2,q3)]),omq,⟨by dsimp only;omega,by dsimp only;rw [hmap,List.length_append,List.length_singleton];omega,hok2,by dsimp only;rw [hmap];exact hI⟩,?_⟩
          dsimp only
          rw [hmap,List.length_append,List.length_singleton]
          (refine ei (fun j=>if j=9 then 73 else j) _ _ rfl rfl ?_ ?_<;>(repeat' (first|exact TmOk.nil|exact RwOk.nil|refine TmOk.cons ?_ ?_|refine RwOk.cons ?_ ?_|rfl|exact bq rfl (by assumption)|exact bq rfl (bytC_cloB _)|(refine rnV_id' rfl ?_;exact byc)|(refine cV ?_;first|rfl|omega|(rw [bM omq omq];omega))|(refine bq rfl ?_;exact byc)|exact d5 rfl rfl|(refine rw_mid (by rfl) (by rfl) ?_ ?_<;>exact byc)|(refine rw_rn' rfl rfl ?_;simp;done))))
          exact gf (r:=⟨63,3,((m++[t]).map T3.E).length+1,false,owL ((m++[t]).map T3.E)++[.v (.int .i64 q1),.v (.int .i64 q2),.v (.string q3)]⟩) rfl (by rw [zkQ];rfl) (aV _))
   ·have hI0:=zj1 hq
    rw [hn fun h=>hq h.1] at hI
    clear hn hy hq hcut hlt hsnoc
    obtain⟨rfl,rfl⟩:=Prod.mk.injEq ..▸hI
    obtain⟨⟨q1,q2,q3,e⟩,hqe⟩:∃q,fZ (bu s k s.size) (eC out)=q:=⟨_,rfl⟩
    rw [hqe] at c2 hI0
    dsimp only at c2 hI0
    clear hqe
    subst hI0
    rcases List.eq_nil_or_concat out with rfl|⟨m,t,rfl⟩
    ·have c2:Ctr prog 40 [_,.c (.v (.bool false))] [] _ []:=c2
     repeat' (first|(apply ay;first|refine bX ?_|(refine aR ?_ ?_<;>intro hG<;>(try cases hG))|refine al ?_|refine db (v:=.tu _) ?_|refine ai ?_|refine dn c2 ?_|refine dA ?_|refine bC ?_|refine ao ?_|refine a7 ?_|refine aB ?_|refine cE ?_|refine fQ (v:=.ag _) ?_|refine bZ ?_|refine jN ?_)|refine ak ?_|refine ab ?_|refine aa fun C=>?_|refine ac ?_|refine aj ?_|(refine ae (by rfl) ?_ ?_<;>intro hC<;>(try cases hC)))
     all_goals first
      | (exfalso;simp at hG;done)
      | (refine bk (jt 90000 (t:=2) 63 3 rfl rfl) ?_
         refine am ?_
         exact bv rfl (cf (aC (lC (ba (rw:=⟨63,3,0,false,[]⟩) rfl rfl rfl rfl aL)) (aC aH bh))) ⟨rfl,rfl⟩)
    ·rw [List.concat_eq_append] at *
     rw [ew,←qg t.1 t.2.1 t.2.2 (hok t (by simp))] at c2
     have hj:(((m++[t]).map T3.E).length:Int)-1=(m.length:Int):=by simp
     have hsub:=nq (m:=m) (t:=t)
     repeat' (first|(apply ay;refine pB ?_)|(apply ay;first|refine bX ?_|(refine aR ?_ ?_<;>intro hG<;>(try cases hG))|refine al ?_|refine db (v:=.tu _) ?_|refine ai ?_|refine zjQ ?_|refine dn c2 ?_|refine dA ?_|refine bC ?_|refine eO ?_|refine ao ?_|refine a7 ?_|refine aB ?_|refine cE ?_|refine fQ (v:=.ag _) ?_|refine cJ ?_|refine bZ ?_|refine jN ?_|refine az ?_)|refine ak ?_|refine ab ?_|refine aa fun C=>?_|refine ac ?_|refine aj ?_|(refine ae (by rfl) ?_ ?_<;>intro hC<;>(try cases hC)))
     all_goals first
      | (exfalso;simp at hG;done)
      | (refine bk (jt 90000 (t:=2) 63 3 rfl rfl) ?_
         refine am ?_
         exact bv rfl (cf (aC (lC (ba (rw:=⟨63,3,0,false,[]⟩) rfl rfl rfl rfl aL)) (aC aH bh))) ⟨rfl,rfl⟩)
 ·have hk:¬k<s.size:=by simpa using h1
  rw [iF fun h=>hk h.1,uN hk] at hI
  obtain⟨rfl,rfl⟩:=Prod.mk.injEq ..▸hI
  repeat' (first|(apply ay;first|refine al ?_|refine ai ?_)|refine ak ?_|refine ab ?_|refine aa fun C=>?_|refine ac ?_|refine aA ?_)
  refine am ?_
  exact bv rfl (cf (aC (lC (ba (rw:=⟨63,3,(out.map T3.E).length,false,owL (out.map T3.E)⟩) rfl rfl rfl (aV _) aL)) (aC aH bh))) ⟨rfl,rfl⟩
section
variable {ops:Array Oper}{Q:Exit→Act→World→Prop}{C:Ctx}{H:List (Nat×Oper×Inf)}{i:Nat}{r:List Nat}{dr:Bool}
variable {tm:Nat→AV}{hp:Nat→Option Row}{gn L:Nat}{us:List Nat}
theorem oR {t:Nat}{gd:Option (Nat×Bool)}{ps:String}{af:Array Edge}{ty ty':TypeId}{xo yo:Operand}{a0 a1 b0 b1:Int}{a2 b2:ByteArray}{q:Bool}(hq:(!((a0==b0)&&((a1==b1)&&(a2.toList==b2.toList))))=q)(h:Walk prog ops Q C dr (bB dr (i,(⟨some t,.binOp .neq 63 xo yo ty',ty,ps,af,gd⟩:Oper),⟨fpO (AS.ev ⟨tm,hp,gn,us,L⟩) (⟨some t,.binOp .neq 63 xo yo ty',ty,ps,af,gd⟩:Oper),[],[],.c (.v (.bool q))⟩) H) r ⟨upd tm t (.c (.v (.bool q))),hp,gn,us,L⟩)
 (ht:Nat.blt t L=true:=by exact rfl) (hg:gw ops tm (⟨some t,.binOp .neq 63 xo yo ty',ty,ps,af,gd⟩:Oper)=some true:=by exact rfl) (hx:AS.ev ⟨tm,hp,gn,us,L⟩ xo=.ag [.v (.int .i64 a0),.v (.int .i64 a1),.v (.string a2)]:=by exact rfl) (hy:AS.ev ⟨tm,hp,gn,us,L⟩ yo=.ag [.v (.int .i64 b0),.v (.int .i64 b1),.v (.string b2)]:=by exact rfl)
 (hc:chk dr ops i (⟨some t,.binOp .neq 63 xo yo ty',ty,ps,af,gd⟩:Oper) ⟨fpO (AS.ev ⟨tm,hp,gn,us,L⟩) (⟨some t,.binOp .neq 63 xo yo ty',ty,ps,af,gd⟩:Oper),[],[],.c (.v (.bool q))⟩ H=true:=by first|(with_reducible exact bg)|kernel_rfl):WalkO prog ops Q C dr H i (⟨some t,.binOp .neq 63 xo yo ty',ty,ps,af,gd⟩:Oper) r ⟨tm,hp,gn,us,L⟩ :=
 ⟨fun hop=>w_eqS (xs:=[.int .i64 a0,.int .i64 a1,.string a2]) (ys:=[.int .i64 b0,.int .i64 b1,.string b2]) (b:=!q) (q:=q) hop rfl rfl ht hg (by kernel_rfl) (by rw [hx];rfl) (by rw [hy];rfl) (fun w=>by rw [oa,←hq,Bool.not_not]) (.inr ⟨rfl,by rw [Bool.not_not]⟩) hc h⟩
end
theorem wB (a b:T3):((a.1==b.1)&&((a.2.1==b.2.1)&&(a.2.2.toList==b.2.2.toList)))=decide (a=b):=by
 rw [ni,Bool.eq_iff_iff]
 simp only [Bool.and_eq_true,beq_iff_eq,decide_eq_true_iff]
 exact⟨fun ⟨h1,h2,h3⟩=>Prod.ext h1 (Prod.ext h2 h3),fun h=>by rw [h];exact⟨rfl,rfl,rfl⟩⟩
theorem yQ {a b:List T3}{k:Nat}{x y:T3}(h:a[k]? = some x)(h':b[k]? = some y)(e:x≠y):a≠b:=fun hab=>by
 rw [hab,h'] at h
 exact e (Option.some.inj h).symm
theorem wC {a b:List T3}(hl:a.length=b.length)(h:∀(j:Nat) x y,j<a.length→a[j]? = some x→b[j]? = some y→x=y):a=b:=by
 refine List.ext_getElem? fun j=>?_
 by_cases hj:j<a.length
 ·rw [List.getElem?_eq_getElem hj,List.getElem?_eq_getElem omq]
  exact congrArg some (h j _ _ hj (List.getElem?_eq_getElem hj) (List.getElem?_eq_getElem omq))
 ·rw [List.getElem?_eq_none omq,List.getElem?_eq_none omq]
theorem sP {la lb:List T3}(hla:la.length≤1048576)(hlb:lb.length≤1048576):Ctr prog 52 [.c (.ro (la.map T3.E).length 3 (acL (la.map T3.E))),.c (.ro (lb.map T3.E).length 3 (acL (lb.map T3.E)))] [] (.c (.v (.bool (decide (la=lb))))) []:=by
 have hka:=tks_enc' (l:=la)
 have hkb:=tks_enc' (l:=lb)
 have hl1:(la.map T3.E).length=la.length:=List.length_map ..
 have hl2:(lb.map T3.E).length=lb.length:=List.length_map ..
 refine av func52 rfl rfl ?_
 repeat' (first|(apply ay;first|refine al ?_|refine ai ?_|refine bE ?_|refine aS ?_)|refine ak ?_|refine ab ?_|refine aa fun C=>?_|refine ac ?_)
 refine ae (by rfl) (fun h1=>?_) fun h1=>?_
 ·repeat' (first|(apply ay;refine ai ?_)|refine ak ?_|refine ab ?_|refine aa fun C=>?_|refine ac ?_)
  refine am ?_;refine bv rfl aH ⟨?_,rfl⟩
  have hne:la≠lb:=fun h=>by
   have h1:(((la.map T3.E).length:Int) != ((lb.map T3.E).length:Int))=true:=h1
   rw [h] at h1
   simp at h1
  rw [decide_eq_false hne]
 ·have hl:la.length=lb.length:=by
   have h1:(((la.map T3.E).length:Int) != ((lb.map T3.E).length:Int))=false:=h1
   rw [hl1,hl2] at h1
   have:((la.length:Nat):Int)=((lb.length:Nat):Int):=by simpa using h1
   omega
  repeat' (first|(apply ay;first|refine al ?_|refine bE ?_)|refine ak ?_|refine ab ?_|refine aa fun C=>?_|refine ac ?_|refine ah ?_|refine aj ?_)
  refine a8 (fun k:Nat=>⟨eX [(0,.c (.ro (la.map T3.E).length 3 (acL (la.map T3.E)))),(1,.c (.ro (lb.map T3.E).length 3 (acL (lb.map T3.E)))),(12,.c (.v (.int .i64 (la.map T3.E).length))),(13,.c (.v (.int .i64 k)))],eJ [],0,[],26⟩)
   (fun N k=>k+N=la.length∧∀j x y,j<k→la[j]? = some x→lb[j]? = some y→x=y) la.length 0 ⟨omq,fun j _ _ hj=>absurd hj (Nat.not_lt_zero _)⟩ ?_ ?_
  ·(refine aM _ _ rfl rfl ?_ ?_<;>exact tdy0)
  rintro N k ⟨hN,hno⟩
  try dsimp only
  repeat' (first|(apply ay;refine aD ?_)|refine ak ?_|refine ab ?_|refine aa fun C=>?_|refine ac ?_)
  refine ae (by rfl) (fun h2=>?_) fun h2=>?_
  ·have hk':k<la.length:=by
    have h2:decide ((k:Int)<((la.map T3.E).length:Int))=true:=h2
    rw [hl1] at h2
    simpa using h2
   obtain⟨⟨x0,x1,x2⟩,hx⟩:∃x,la[k]? = some x:=⟨_,List.getElem?_eq_getElem hk'⟩
   obtain⟨⟨y0,y1,y2⟩,hy⟩:∃y,lb[k]? = some y:=⟨_,List.getElem?_eq_getElem omq⟩
   have hxe:(la.map T3.E)[k]? = some (E.agg [.int .i64 x0,.int .i64 x1,.str x2]):=by rw [List.getElem?_map,hx];rfl
   have hye:(lb.map T3.E)[k]? = some (E.agg [.int .i64 y0,.int .i64 y1,.str y2]):=by rw [List.getElem?_map,hy];rfl
   by_cases he:((x0,x1,x2):T3)=(y0,y1,y2)
   ·have hq:(!((x0==y0)&&((x1==y1)&&(x2.toList==y2.toList))))=false:=by rw [show ((x0==y0)&&((x1==y1)&&(x2.toList==y2.toList)))=decide (((x0,x1,x2):T3)=(y0,y1,y2)) from wB (x0,x1,x2) (y0,y1,y2),decide_eq_true he];rfl
    repeat' (first|(apply dC;refine oR hq ?_)|(apply ay;first|refine al ?_|refine ai ?_|refine aw ?_)|refine ak ?_|refine ab ?_|(apply dC;first|(apply ep;refine aN ?_)|refine fY ?_|refine rZ ?_)|refine ak ?_|refine ab ?_|refine aa fun C=>?_|refine ar (by kernel_rfl) (by kernel_rfl) fun C=>?_|refine ac ?_|refine ah ?_|refine aj ?_|refine au rfl ?_)
    refine⟨N-1,k+1,omq,⟨omq,fun j p q hj hp hq=>?_⟩,?_⟩
    ·by_cases e:j=k
     ·rw [e,hx] at hp;rw [e,hy] at hq;injection hp with hp;injection hq with hq;subst hp hq;exact he
     ·exact hno j p q omq hp hq
    ·(refine aM _ _ rfl rfl ?_ ?_<;>exact tdy0)
   ·have hq:(!((x0==y0)&&((x1==y1)&&(x2.toList==y2.toList))))=true:=by rw [show ((x0==y0)&&((x1==y1)&&(x2.toList==y2.toList)))=decide (((x0,x1,x2):T3)=(y0,y1,y2)) from wB (x0,x1,x2) (y0,y1,y2),decide_eq_false he];rfl
    repeat' (first|(apply dC;refine oR hq ?_)|(apply ay;first|refine al ?_|refine ai ?_)|refine ak ?_|refine ab ?_|(apply dC;first|(apply ep;refine aN ?_)|refine fY ?_|refine rZ ?_)|refine ak ?_|refine ab ?_|refine aa fun C=>?_|refine ar (by kernel_rfl) (by kernel_rfl) fun C=>?_|refine ac ?_|refine ah ?_|refine aj ?_|refine aq rfl ?_)
    refine am ?_;refine bv rfl aH ⟨?_,rfl⟩
    rw [decide_eq_false (yQ hx hy he)]
  ·have hk':¬k<la.length:=by
    have h2:decide ((k:Int)<((la.map T3.E).length:Int))=false:=h2
    rw [hl1] at h2
    simpa using h2
   repeat' (first|(apply ay;refine ai ?_)|refine ak ?_|refine ab ?_|refine aa fun C=>?_|refine ac ?_|refine aA ?_)
   refine am ?_;refine bv rfl aH ⟨?_,rfl⟩
   rw [decide_eq_true (wC hl fun j x y hj hx hy=>hno j x y omq hx hy)]
theorem ka (s:ByteArray):(jr s).length≤2000:=by
 obtain⟨l,r',e,-,hl,-⟩:=oK s
 unfold jr
 rw [List.length_map,e,List.length_map]
 exact hl
def stB (s t:ByteArray):Bool:=decide ((nx s).2 = -1)&&(decide ((nx t).2 = -1)&&decide (jr s=jr t))
theorem sQ {s t:ByteArray}(hs:s.size≤1048576)(ht:t.size≤1048576):Ctr prog 27 [.c (.v (.string s)),.c (.v (.string t))] [] (.c (.v (.bool (stB s t)))) []:=by
 have c1:=lm hs
 have c2:=lm ht
 rw [(eU s).2] at c1
 rw [(eU t).2] at c2
 have l1:=ka s
 have l2:=ka t
 have c3:=sP (la:=jr s) (lb:=jr t) omq omq
 unfold stB
 generalize (nx s).2=p1 at *
 generalize (nx t).2=p2 at *
 generalize jr s=la at *
 generalize jr t=lb at *
 have e1:(p1==-1)=decide (p1 = -1):=by rw [Bool.eq_iff_iff];simp
 have e2:(p2==-1)=decide (p2 = -1):=by rw [Bool.eq_iff_iff];simp
 refine av func27 rfl rfl ?_
 by_cases h1:p1 = -1
 ·subst h1
  by_cases h2:p2 = -1
  ·subst h2
   repeat' (first|(apply ay;first|(refine aR ?_ ?_<;>intro hG<;>(try cases hG))|refine al ?_|refine db (v:=.tu _) ?_|refine ai ?_|refine dn c1 ?_|refine dn c2 ?_|refine aF c3 ?_|refine ao ?_|refine aB ?_|refine cE ?_)|refine ak ?_|refine ab ?_|refine aa fun C=>?_|refine ac ?_)
   refine am ?_;refine bv rfl aH ⟨?_,rfl⟩;simp
  ·rw [decide_eq_false h2]
   repeat' (first|(apply ay;first|refine bX ?_|(refine aR ?_ ?_<;>intro hG<;>(try cases hG))|refine al ?_|refine db (v:=.tu _) ?_|refine ai ?_|refine dn c1 ?_|refine dn c2 ?_|refine aF c3 ?_|refine ao ?_|refine aB ?_|refine cE ?_)|refine ak ?_|refine ab ?_|refine aa fun C=>?_|refine ac ?_)
   all_goals first
    | (exfalso;exact h2 (eq_of_beq hG))
    | (refine am ?_;refine bv rfl aH ⟨?_,rfl⟩;simp;done)
    | (refine am ?_;refine bv rfl aH ⟨?_,rfl⟩;clear c1 c2 c3;simp_all;done)
 ·rw [decide_eq_false h1]
  repeat' (first|(apply ay;first|refine bX ?_|(refine aR ?_ ?_<;>intro hG<;>(try cases hG))|refine al ?_|refine db (v:=.tu _) ?_|refine ai ?_|refine dn c1 ?_|refine dn c2 ?_|refine aF c3 ?_|refine ao ?_|refine aB ?_|refine cE ?_)|refine ak ?_|refine ab ?_|refine aa fun C=>?_|refine ac ?_)
  all_goals first
   | (exfalso;exact h1 (eq_of_beq hG))
   | (refine am ?_;refine bv rfl aH ⟨?_,rfl⟩;simp;done)
   | (refine am ?_;refine bv rfl aH ⟨?_,rfl⟩;clear c1 c2 c3;simp_all;done)
end Go.Proofs.YtomolhbkdhjofaaGreatDoor
