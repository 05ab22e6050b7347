/- T -/
import Derived.Test.YtomolhbkdhjofaaGreatDoorParXAP
set_option maxHeartbeats 0
set_option maxRecDepth 100000
namespace Go.Proofs.YtomolhbkdhjofaaGreatDoor
open Go.RowKit Go.Proofs.Tryz
def eZ:List T3→Bool
 | []=>false
 | [t]=>ou t.1 t.2.2
 | _ :: l=>eZ l
theorem eS:∀(l:List T3) (t:T3),eZ (l++[t])=ou t.1 t.2.2
 | [],t=>rfl
 | [x],t=>rfl
 | x :: y :: l,t=>by
  show eZ ((y :: l)++[t])=_
  exact eS (y :: l) t
theorem rf (k n:Int)(s:ByteArray)(hn:bP k n s=true):((k==5)&&((n==0)&&(s.toList==(⟨#[126]⟩:ByteArray).toList)))=ou k s:=by
 rw [bytes_beq]
 unfold ou
 by_cases h5:k=5
 ·subst h5
  have h:dY s=true∧n=0:=by simpa [bP] using hn
  obtain⟨-,rfl⟩:=h
  simp
 ·simp [h5]
theorem om {m:List T3}{t:T3}:gG (owL ((m++[t]).map T3.E)) (m.length*3) (prog.cellsOf 63)=[.v (.int .i64 t.1),.v (.int .i64 t.2.1),.v (.string t.2.2)]:=by
 have hc:prog.cellsOf 63=3:=by kernel_rfl
 have hl:∀l:List T3,(owL (l.map T3.E)).length=l.length*3:=fun l=>by
  induction l with
  | nil=>rfl
  | cons x l ih =>
   show (owE x.E++owL (l.map T3.E)).length=_
   rw [List.length_append,ih,List.length_cons]
   show 3+_=_;omega
 rw [hc,List.map_append,fj]
 unfold gG
 rw [←hl m,List.drop_left]
 rfl
theorem l8 {s:ByteArray}(hs:s.size≤1048576):Ctr prog 18 [.c (.v (.string s))] [] (.tu [.c (.ow 63 (iq s).1.length 3 (owL (iq s).1)),.c (.v (.int .i64 (iq s).2))]) []:=by
 unfold iq
 obtain⟨⟨L,P⟩,hL⟩:∃r,th s (er s 0) false []=r:=⟨_,rfl⟩
 rw [hL]
 dsimp only
 refine ay func18 rfl rfl ?_
 repeat' (first|(apply av;refine ai ?_)|refine aj ?_|refine ab ?_|refine aa fun C=>?_|refine ac ?_|refine ah ?_)
 refine aZ (fun d:Nat×List T3=>⟨e8 [(0,.c (.v (.string s))),(4,.c (.sl 9 (d.2.map T3.E).length)),(5,.c (.v (.int .i64 (d.1:Int))))],eT [(9,9,⟨63,3,(d.2.map T3.E).length,false,owL (d.2.map T3.E)⟩)],0,[9],78⟩)
  (fun N d=>d.1+N=s.size∧(d.2.map T3.E).length≤2000∧(∀t∈d.2,bP t.1 t.2.1 t.2.2=true)∧th s (er s d.1) (eZ d.2) (d.2.map T3.E)=(L,P)) s.size (0,[]) ⟨by dsimp only;omega,Nat.zero_le _,fun _ h=>absurd h List.not_mem_nil,hL⟩ ?_ ?_
 ·refine (jR 9 (t:=4) 63 3 rfl rfl).trans ?_
  show Gh _ _
  (refine aN _ _ rfl rfl ?_ ?_<;>exact tdy1)
 rintro N ⟨k,out⟩ ⟨hN,hl,hok,hI⟩
 dsimp only at hN hl hok hI ⊢
 clear hL
 repeat' (first|(apply av;first|refine ak ?_|refine be ?_|refine aE ?_)|refine aj ?_|refine ab ?_|refine aa fun C=>?_|refine ac ?_)
 refine ae (by rfl) (fun h1=>?_) fun h1=>?_
 ·have hk:k<s.size:=by simpa using h1
  repeat' (first|(apply av;first|refine ak ?_|refine ai ?_|refine aW ?_|refine cb ?_)|refine aj ?_|refine ab ?_|refine aa fun C=>?_|refine ac ?_|refine ah ?_|refine al ?_)
  refine ae (by rfl) (fun h32=>?_) fun n32=>?_
  ·rw [iH hk (by simp at h32;simp [blB];omega)] at hI
   repeat' (first|(apply av;first|refine ak ?_|refine ai ?_|refine aw ?_)|refine aj ?_|refine ab ?_|refine aa fun C=>?_|refine ac ?_|refine al ?_|refine aB ?_|refine aq rfl ?_)
   refine⟨N-1,(k+1,out),omq,⟨by dsimp only;omega,hl,hok,hI⟩,?_⟩
   show Gh _ _
   (refine aN _ _ rfl rfl ?_ ?_<;>exact tdy1)
  repeat' (first|(apply av;first|refine ai ?_|refine aW ?_)|refine aj ?_|refine ab ?_|refine aa fun C=>?_|refine ac ?_)
  refine ae (by rfl) (fun h9=>?_) fun n9=>?_
  ·rw [iH hk (by simp at h9;simp [blB];omega)] at hI
   repeat' (first|(apply av;first|refine ak ?_|refine ai ?_|refine aw ?_)|refine aj ?_|refine ab ?_|refine aa fun C=>?_|refine ac ?_|refine al ?_|refine aB ?_|refine aq rfl ?_)
   refine⟨N-1,(k+1,out),omq,⟨by dsimp only;omega,hl,hok,hI⟩,?_⟩
   show Gh _ _
   (refine aN _ _ rfl rfl ?_ ?_<;>exact tdy1)
  repeat' (first|(apply av;first|refine ai ?_|refine aW ?_)|refine aj ?_|refine ab ?_|refine aa fun C=>?_|refine ac ?_)
  refine ae (by rfl) (fun h10=>?_) fun n10=>?_
  ·rw [iH hk (by simp at h10;simp [blB];omega)] at hI
   repeat' (first|(apply av;first|refine ak ?_|refine ai ?_|refine aw ?_)|refine aj ?_|refine ab ?_|refine aa fun C=>?_|refine ac ?_|refine al ?_|refine aB ?_|refine aq rfl ?_)
   refine⟨N-1,(k+1,out),omq,⟨by dsimp only;omega,hl,hok,hI⟩,?_⟩
   show Gh _ _
   (refine aN _ _ rfl rfl ?_ ?_<;>exact tdy1)
  repeat' (first|(apply av;first|refine ai ?_|refine aW ?_)|refine aj ?_|refine ab ?_|refine aa fun C=>?_)
  refine ae (by rfl) (fun h13=>?_) fun n13=>?_
  ·rw [iH hk (by simp at h13;simp [blB];omega)] at hI
   repeat' (first|(apply av;first|refine ak ?_|refine ai ?_|refine aw ?_)|refine aj ?_|refine ab ?_|refine aa fun C=>?_|refine ac ?_|refine aB ?_)
   refine⟨N-1,(k+1,out),omq,⟨by dsimp only;omega,hl,hok,hI⟩,?_⟩
   show Gh _ _
   (refine aN _ _ rfl rfl ?_ ?_<;>exact tdy1)
  repeat' (first|(apply av;first|refine ai ?_|refine aW ?_)|refine aj ?_|refine ab ?_|refine aa fun C=>?_|refine ac ?_)
  refine ae (by rfl) (fun h35=>?_) fun n35=>?_
  ·have h35':bAt s k=35:=by simp at h35;omega
   have c1:Ctr prog 39 [.c (.v (.string (bk s k s.size))),.c (.v (.int .u8 10))] [] _ []:=fq (bk s k s.size) (c:=10) omq
   rw [vU omq omq] at c1
   have hr:=bG (p:=neB 10) (s:=s) s.size k omq omq
   have g1:=hr.1
   have g2:=hr.2.1
   clear hr
   by_cases he:bD (neB 10) s s.size k<s.size
   ·rw [tg hk h35' he] at hI
    rw [if_pos he] at c1
    generalize bD (neB 10) s s.size k=e at *
    have he2:(k:Int)+(((e-k:Nat):Int)+1)=((e+1:Nat):Int):=by omega
    repeat' (first|(apply av;first|refine ak ?_|refine ai ?_|refine aG c1 ?_|refine aE ?_|refine aw ?_|refine qm ?_)|refine aj ?_|refine ab ?_|refine aa fun C=>?_|refine ac ?_|refine al ?_|refine aB ?_|(refine ae (by rfl) ?_ ?_<;>intro hC<;>(try cases hC)))
    all_goals first
     | (exfalso;simp only [decide_eq_true_iff] at hC;omega)
     | (refine⟨s.size-(e+1),(e+1,out),omq,⟨by dsimp only;omega,hl,hok,hI⟩,?_⟩
        dsimp only
        rw [←he2]
        show Gh _ _
        (refine aN _ _ rfl rfl ?_ ?_<;>(repeat' (first|exact TmOk.nil|exact RwOk.nil|refine TmOk.cons ?_ ?_|refine RwOk.cons ?_ ?_|rfl|exact bf rfl (by assumption)|exact bf rfl (bytC_cloB _)|(refine rnV_id' rfl ?_;exact byc)|(refine cE ?_;first|rfl|omega|(rw [bA omq omq];omega))|(refine bf rfl ?_;exact byc)|exact dH rfl rfl|(refine rw_mid (by rfl) (by rfl) ?_ ?_<;>exact byc)|(refine rw_rn' rfl rfl ?_;simp;done)))))
   ·rw [li hk h35'] at hI
    rw [if_neg he] at c1
    have he2:bD (neB 10) s s.size k=s.size:=by omega
    rw [he2] at hI
    have he3:(k:Int)+((((s.size:Int)-(k:Int))-1)+1)=((s.size:Nat):Int):=by omega
    repeat' (first|(apply av;first|refine ak ?_|refine ai ?_|refine aG c1 ?_|refine be ?_|refine aE ?_|refine aw ?_|refine ed ?_|refine qm ?_)|refine aj ?_|refine ab ?_|refine aa fun C=>?_|refine ac ?_|refine aB ?_|(refine ae (by rfl) ?_ ?_<;>intro hC<;>(try cases hC)))
    all_goals
     refine⟨0,(s.size,out),omq,⟨by dsimp only;omega,hl,hok,hI⟩,?_⟩
     dsimp only
     rw [←he3]
     show Gh _ _
     (refine aN _ _ rfl rfl ?_ ?_<;>exact tdy1)
  ·rw [ga fun ⟨_,h⟩=>by
    simp only [beq_eq_false_iff_ne,ne_eq] at n32 n9 n10 n13 n35
    simp only [blB,Bool.or_eq_true,decide_eq_true_iff] at h
    omega] at hI
   have hz:=bO (s:=s) (a:=k) (b:=s.size) omq (Nat.le_refl _)
   have c2:=xS (s:=bk s k s.size) omq omq (eZ out)
   have hcut:=yS (rex:=eZ out) hk
   have hy:=qt (rex:=eZ out) (out:=out.map T3.E) hk
   have hn:=zg1 (rex:=eZ out) (out:=out.map T3.E) hk
   have hlt:=nF (rex:=eZ out) (show 0<(bk s k s.size).size by omega)
   rw [hcut] at hy hn
   have hsnoc:=fun t=>eS out t
   by_cases hq:(dQ (bk s k s.size) 0 (eZ out)).ok=true
   ·rw [yZ hq] at c2
    unfold Tk.ok Tk.E at hy
    unfold Tk.ok at hn hq
    obtain⟨⟨q1,q2,q3,e⟩,hqe⟩:∃q,dQ (bk s k s.size) 0 (eZ out)=q:=⟨_,rfl⟩
    rw [hqe] at c2 hlt hy hn hq
    dsimp only at c2 hlt hy hn hq
    clear hqe hcut
    have hsn:=hsnoc (q1,q2,q3)
    dsimp only at hsn
    clear hsnoc
    by_cases hm:(out.map T3.E).length=2000
    ·rw [hn fun h=>h.2 hm] at hI
     clear hn hy
     obtain⟨rfl,rfl⟩:=Prod.mk.injEq ..▸hI
     have hne:out≠[]:=fun h=>by subst h;cases hm
     obtain⟨m,t,rfl⟩:∃m t,out=m++[t]:=⟨out.dropLast,out.getLast hne,(List.dropLast_concat_getLast hne).symm⟩
     rw [eS,←rf t.1 t.2.1 t.2.2 (hok t (by simp))] at c2
     have hj:(((m++[t]).map T3.E).length:Int)-1=(m.length:Int):=by simp
     have hsub:=om (m:=m) (t:=t)
     repeat' (first|(apply av;refine qx ?_)|(apply av;first|refine bC ?_|(refine aK ?_ ?_<;>intro hG<;>(try cases hG))|refine ak ?_|refine dI (v:=.tu _) ?_|refine ai ?_|refine bL ?_|refine ql ?_|refine dp c2 ?_|refine cU ?_|refine ip ?_|refine bg ?_|refine fc ?_|refine ao ?_|refine bu ?_|refine aw ?_|refine aA ?_|(apply qn;first|refine cK ?_|refine az ?_)|refine ed ?_|refine bI ?_|refine ec ?_|refine qm ?_|refine az ?_)|refine aj ?_|refine ab ?_|refine aa fun C=>?_|refine ac ?_|refine al ?_|(refine ae (by rfl) ?_ ?_<;>intro hC<;>(try cases hC)))
     all_goals first
      | (exfalso;simp at hG;done)
      | (exfalso;simp only [beq_iff_eq,beq_eq_false_iff_ne,ne_eq,decide_eq_true_iff,decide_eq_false_iff_not] at *;omega)
      | (refine a7 (jR 90000 (t:=2) 63 3 rfl rfl) ?_
         refine am ?_
         exact bv rfl (bS (aD (iC (bB (rw:=⟨63,3,0,false,[]⟩) rfl rfl rfl rfl aV)) (aD aJ bc))) ⟨rfl,rfl⟩)
    ·rw [hy hq hm,←hsn,Nat.add_comm e k] at hI
     clear hn hy hsn
     have hok2:∀t∈out++[(q1,q2,q3)],bP t.1 t.2.1 t.2.2=true:=fun t ht=>by
      rcases List.mem_append.1 ht with ht|ht
      ·exact hok t ht
      ·rw [List.mem_singleton.1 ht];exact hq
     have hmap:(out++[(q1,q2,q3)]).map T3.E=out.map T3.E++[tokE q1 q2 q3]:=by rw [List.map_append];rfl
     rcases List.eq_nil_or_concat out with rfl|⟨m,t,rfl⟩
     ·have c2:Ctr prog 40 [_,.c (.v (.bool false))] [] _ []:=c2
      repeat' (first|(apply av;first|refine bC ?_|(refine aK ?_ ?_<;>intro hG<;>(try cases hG))|refine ak ?_|refine dI (v:=.tu _) ?_|refine ai ?_|refine bL ?_|refine dp c2 ?_|refine cU ?_|refine ip ?_|refine bg ?_|refine ao ?_|refine bu ?_|refine aw ?_|refine aA ?_|(apply qn;first|refine cK ?_|refine az ?_)|refine bI ?_|refine ec ?_|refine qm ?_)|refine aj ?_|refine ab ?_|refine aa fun C=>?_|refine ac ?_|refine al ?_|(refine ae (by rfl) ?_ ?_<;>intro hC<;>(try cases hC)))
      all_goals first
       | (exfalso;simp at hG;done)
       | (exfalso;simp only [beq_iff_eq,beq_eq_false_iff_ne,ne_eq,decide_eq_true_iff,decide_eq_false_iff_not] at *;omega)
       | (refine⟨s.size-(k+e),(k+e,([]:List T3)++[(q1,q2,q3)]),omq,⟨by dsimp only;omega,by dsimp only;rw [hmap,List.length_append,List.length_singleton];omega,hok2,by dsimp only;rw [hmap];exact hI⟩,?_⟩
          dsimp only
          rw [hmap,List.length_append,List.length_singleton]
          (refine eu (fun j=>if j=9 then 73 else j) _ _ rfl rfl ?_ ?_<;>(repeat' (first|exact TmOk.nil|exact RwOk.nil|refine TmOk.cons ?_ ?_|refine RwOk.cons ?_ ?_|rfl|exact bf rfl (by assumption)|exact bf rfl (bytC_cloB _)|(refine rnV_id' rfl ?_;exact byc)|(refine cE ?_;first|rfl|omega|(rw [bA omq omq];omega))|(refine bf rfl ?_;exact byc)|exact dH rfl rfl|(refine rw_mid (by rfl) (by rfl) ?_ ?_<;>exact byc)|(refine rw_rn' rfl rfl ?_;simp;done))))
          all_goals exact fa (r:=⟨63,3,((([]:List T3)).map T3.E).length+1,false,owL ((([]:List T3)).map T3.E)++[.v (.int .i64 q1),.v (.int .i64 q2),.v (.string q3)]⟩) rfl (by rw [rU];rfl) (a8 _))
     ·rw [List.concat_eq_append] at *
      rw [eS,←rf t.1 t.2.1 t.2.2 (hok t (by simp))] at c2
      have hj:(((m++[t]).map T3.E).length:Int)-1=(m.length:Int):=by simp
      have hsub:=om (m:=m) (t:=t)
      repeat' (first|(apply av;refine qx ?_)|(apply av;first|refine bC ?_|(refine aK ?_ ?_<;>intro hG<;>(try cases hG))|refine ak ?_|refine dI (v:=.tu _) ?_|refine ai ?_|refine bL ?_|refine ql ?_|refine dp c2 ?_|refine cU ?_|refine ip ?_|refine bg ?_|refine fc ?_|refine ao ?_|refine bu ?_|refine aw ?_|refine aA ?_|(apply qn;first|refine cK ?_|refine az ?_)|refine ed ?_|refine bI ?_|refine ec ?_|refine qm ?_|refine az ?_)|refine aj ?_|refine ab ?_|refine aa fun C=>?_|refine ac ?_|refine al ?_|(refine ae (by rfl) ?_ ?_<;>intro hC<;>(try cases hC)))
      all_goals first
       | (exfalso;simp at hG;done)
       | (exfalso;simp only [beq_iff_eq,beq_eq_false_iff_ne,ne_eq,decide_eq_true_iff,decide_eq_false_iff_not] at *;omega)
       | (refine⟨s.size-(k+e),(k+e,m++[t]++[(q1,q2,q3)]),omq,⟨by dsimp only;omega,by dsimp only;rw [hmap,List.length_append,List.length_singleton];omega,hok2,by dsimp only;rw [hmap];exact hI⟩,?_⟩
          dsimp only
          rw [hmap,List.length_append,List.length_singleton]
          (refine eu (fun j=>if j=9 then 73 else j) _ _ rfl rfl ?_ ?_<;>(repeat' (first|exact TmOk.nil|exact RwOk.nil|refine TmOk.cons ?_ ?_|refine RwOk.cons ?_ ?_|rfl|exact bf rfl (by assumption)|exact bf rfl (bytC_cloB _)|(refine rnV_id' rfl ?_;exact byc)|(refine cE ?_;first|rfl|omega|(rw [bA omq omq];omega))|(refine bf rfl ?_;exact byc)|exact dH rfl rfl|(refine rw_mid (by rfl) (by rfl) ?_ ?_<;>exact byc)|(refine rw_rn' rfl rfl ?_;simp;done))))
          exact fa (r:=⟨63,3,((m++[t]).map T3.E).length+1,false,owL ((m++[t]).map T3.E)++[.v (.int .i64 q1),.v (.int .i64 q2),.v (.string q3)]⟩) rfl (by rw [rU];rfl) (a8 _))
   ·have hI0:=zf4 hq
    rw [hn fun h=>hq h.1] at hI
    clear hn hy hq hcut hlt hsnoc
    obtain⟨rfl,rfl⟩:=Prod.mk.injEq ..▸hI
    obtain⟨⟨q1,q2,q3,e⟩,hqe⟩:∃q,gD (bk s k s.size) (eZ out)=q:=⟨_,rfl⟩
    rw [hqe] at c2 hI0
    dsimp only at c2 hI0
    clear hqe
    subst hI0
    rcases List.eq_nil_or_concat out with rfl|⟨m,t,rfl⟩
    ·have c2:Ctr prog 40 [_,.c (.v (.bool false))] [] _ []:=c2
     repeat' (first|(apply av;first|refine bC ?_|(refine aK ?_ ?_<;>intro hG<;>(try cases hG))|refine ak ?_|refine dI (v:=.tu _) ?_|refine ai ?_|refine dp c2 ?_|refine cU ?_|refine bg ?_|refine ao ?_|refine bu ?_|refine aA ?_|(apply qn;first|refine cK ?_|refine az ?_)|refine bI ?_|refine qm ?_)|refine aj ?_|refine ab ?_|refine aa fun C=>?_|refine ac ?_|refine al ?_|(refine ae (by rfl) ?_ ?_<;>intro hC<;>(try cases hC)))
     all_goals first
      | (exfalso;simp at hG;done)
      | (refine a7 (jR 90000 (t:=2) 63 3 rfl rfl) ?_
         refine am ?_
         exact bv rfl (bS (aD (iC (bB (rw:=⟨63,3,0,false,[]⟩) rfl rfl rfl rfl aV)) (aD aJ bc))) ⟨rfl,rfl⟩)
    ·rw [List.concat_eq_append] at *
     rw [eS,←rf t.1 t.2.1 t.2.2 (hok t (by simp))] at c2
     have hj:(((m++[t]).map T3.E).length:Int)-1=(m.length:Int):=by simp
     have hsub:=om (m:=m) (t:=t)
     repeat' (first|(apply av;refine qx ?_)|(apply av;first|refine bC ?_|(refine aK ?_ ?_<;>intro hG<;>(try cases hG))|refine ak ?_|refine dI (v:=.tu _) ?_|refine ai ?_|refine ql ?_|refine dp c2 ?_|refine cU ?_|refine bg ?_|refine fc ?_|refine ao ?_|refine bu ?_|refine aA ?_|(apply qn;first|refine cK ?_|refine az ?_)|refine ed ?_|refine bI ?_|refine qm ?_|refine az ?_)|refine aj ?_|refine ab ?_|refine aa fun C=>?_|refine ac ?_|refine al ?_|(refine ae (by rfl) ?_ ?_<;>intro hC<;>(try cases hC)))
     all_goals first
      | (exfalso;simp at hG;done)
      | (refine a7 (jR 90000 (t:=2) 63 3 rfl rfl) ?_
         refine am ?_
         exact bv rfl (bS (aD (iC (bB (rw:=⟨63,3,0,false,[]⟩) rfl rfl rfl rfl aV)) (aD aJ bc))) ⟨rfl,rfl⟩)
 ·have hk:¬k<s.size:=by simpa using h1
  rw [ga fun h=>hk h.1,qs hk] at hI
  obtain⟨rfl,rfl⟩:=Prod.mk.injEq ..▸hI
  repeat' (first|(apply av;first|refine ak ?_|refine ai ?_)|refine aj ?_|refine ab ?_|refine aa fun C=>?_|refine ac ?_|refine aB ?_)
  refine am ?_
  exact bv rfl (bS (aD (iC (bB (rw:=⟨63,3,(out.map T3.E).length,false,owL (out.map T3.E)⟩) rfl rfl rfl (a8 _) aV)) (aD aJ bc))) ⟨rfl,rfl⟩
section
variable {ops:Array Oper}{Q:Exit→Act→World→Prop}{C:Ctx}{H:List (Nat×Oper×Inf)}{i:Nat}{r:List Nat}{dr:Bool}
variable {tm:Nat→AV}{hp:Nat→Option Row}{gn L:Nat}{us:List Nat}
theorem pO {t:Nat}{gd:Option (Nat×Bool)}{ps:String}{af:Array Edge}{ty ty':TypeId}{xo yo:Operand}{a0 a1 b0 b1:Int}{a2 b2:ByteArray}{q:Bool}(hq:(!((a0==b0)&&((a1==b1)&&(a2.toList==b2.toList))))=q)(h:Walk prog ops Q C dr (bE dr (i,(⟨some t,.binOp .neq 63 xo yo ty',ty,ps,af,gd⟩:Oper),⟨fpO (AS.ev ⟨tm,hp,gn,us,L⟩) (⟨some t,.binOp .neq 63 xo yo ty',ty,ps,af,gd⟩:Oper),[],[],.c (.v (.bool q))⟩) H) r ⟨upd tm t (.c (.v (.bool q))),hp,gn,us,L⟩)
 (ht:Nat.blt t L=true:=by exact rfl) (hg:gw ops tm (⟨some t,.binOp .neq 63 xo yo ty',ty,ps,af,gd⟩:Oper)=some true:=by exact rfl) (hx:AS.ev ⟨tm,hp,gn,us,L⟩ xo=.ag [.v (.int .i64 a0),.v (.int .i64 a1),.v (.string a2)]:=by exact rfl) (hy:AS.ev ⟨tm,hp,gn,us,L⟩ yo=.ag [.v (.int .i64 b0),.v (.int .i64 b1),.v (.string b2)]:=by exact rfl)
 (hc:chk dr ops i (⟨some t,.binOp .neq 63 xo yo ty',ty,ps,af,gd⟩:Oper) ⟨fpO (AS.ev ⟨tm,hp,gn,us,L⟩) (⟨some t,.binOp .neq 63 xo yo ty',ty,ps,af,gd⟩:Oper),[],[],.c (.v (.bool q))⟩ H=true:=by first|(with_reducible exact bp)|kernel_rfl):WalkO prog ops Q C dr H i (⟨some t,.binOp .neq 63 xo yo ty',ty,ps,af,gd⟩:Oper) r ⟨tm,hp,gn,us,L⟩ :=
 ⟨fun hop=>w_eqS (xs:=[.int .i64 a0,.int .i64 a1,.string a2]) (ys:=[.int .i64 b0,.int .i64 b1,.string b2]) (b:=!q) (q:=q) hop rfl rfl ht hg (by kernel_rfl) (by rw [hx];rfl) (by rw [hy];rfl) (fun w=>by rw [o5,←hq,Bool.not_not]) (.inr ⟨rfl,by rw [Bool.not_not]⟩) hc h⟩
end
theorem xT (a b:T3):((a.1==b.1)&&((a.2.1==b.2.1)&&(a.2.2.toList==b.2.2.toList)))=decide (a=b):=by
 rw [mz,Bool.eq_iff_iff]
 simp only [Bool.and_eq_true,beq_iff_eq,decide_eq_true_iff]
 exact⟨fun ⟨h1,h2,h3⟩=>Prod.ext h1 (Prod.ext h2 h3),fun h=>by rw [h];exact⟨rfl,rfl,rfl⟩⟩
theorem zjQ {a b:List T3}{k:Nat}{x y:T3}(h:a[k]? = some x)(h':b[k]? = some y)(e:x≠y):a≠b:=fun hab=>by
 rw [hab,h'] at h
 exact e (Option.some.inj h).symm
theorem xU {a b:List T3}(hl:a.length=b.length)(h:∀(j:Nat) x y,j<a.length→a[j]? = some x→b[j]? = some y→x=y):a=b:=by
 refine List.ext_getElem? fun j=>?_
 by_cases hj:j<a.length
 ·rw [List.getElem?_eq_getElem hj,List.getElem?_eq_getElem omq]
  exact congrArg some (h j _ _ hj (List.getElem?_eq_getElem hj) (List.getElem?_eq_getElem omq))
 ·rw [List.getElem?_eq_none omq,List.getElem?_eq_none omq]
theorem tX {la lb:List T3}(hla:la.length≤1048576)(hlb:lb.length≤1048576):Ctr prog 52 [.c (.ro (la.map T3.E).length 3 (acL (la.map T3.E))),.c (.ro (lb.map T3.E).length 3 (acL (lb.map T3.E)))] [] (.c (.v (.bool (decide (la=lb))))) []:=by
 have hka:=tks_enc' (l:=la)
 have hkb:=tks_enc' (l:=lb)
 have hl1:(la.map T3.E).length=la.length:=List.length_map ..
 have hl2:(lb.map T3.E).length=lb.length:=List.length_map ..
 refine ay func52 rfl rfl ?_
 repeat' (first|(apply av;first|refine ak ?_|refine ai ?_|refine bN ?_|refine aQ ?_)|refine aj ?_|refine ab ?_|refine aa fun C=>?_|refine ac ?_)
 refine ae (by rfl) (fun h1=>?_) fun h1=>?_
 ·repeat' (first|(apply av;refine ai ?_)|refine aj ?_|refine ab ?_|refine aa fun C=>?_|refine ac ?_)
  refine am ?_;refine bv rfl aJ ⟨?_,rfl⟩
  have hne:la≠lb:=fun h=>by
   have h1:(((la.map T3.E).length:Int) != ((lb.map T3.E).length:Int))=true:=h1
   rw [h] at h1
   simp at h1
  rw [decide_eq_false hne]
 ·have hl:la.length=lb.length:=by
   have h1:(((la.map T3.E).length:Int) != ((lb.map T3.E).length:Int))=false:=h1
   rw [hl1,hl2] at h1
   have:((la.length:Nat):Int)=((lb.length:Nat):Int):=by simpa using h1
   omega
  repeat' (first|(apply av;first|refine ak ?_|refine bN ?_)|refine aj ?_|refine ab ?_|refine aa fun C=>?_|refine ac ?_|refine ah ?_|refine al ?_)
  refine aZ (fun k:Nat=>⟨e8 [(0,.c (.ro (la.map T3.E).length 3 (acL (la.map T3.E)))),(1,.c (.ro (lb.map T3.E).length 3 (acL (lb.map T3.E)))),(12,.c (.v (.int .i64 (la.map T3.E).length))),(13,.c (.v (.int .i64 k)))],eT [],0,[],26⟩)
   (fun N k=>k+N=la.length∧∀j x y,j<k→la[j]? = some x→lb[j]? = some y→x=y) la.length 0 ⟨omq,fun j _ _ hj=>absurd hj (Nat.not_lt_zero _)⟩ ?_ ?_
  ·(refine aN _ _ rfl rfl ?_ ?_<;>exact tdy0)
  rintro N k ⟨hN,hno⟩
  try dsimp only
  repeat' (first|(apply av;refine aE ?_)|refine aj ?_|refine ab ?_|refine aa fun C=>?_|refine ac ?_)
  refine ae (by rfl) (fun h2=>?_) fun h2=>?_
  ·have hk':k<la.length:=by
    have h2:decide ((k:Int)<((la.map T3.E).length:Int))=true:=h2
    rw [hl1] at h2
    simpa using h2
   obtain⟨⟨x0,x1,x2⟩,hx⟩:∃x,la[k]? = some x:=⟨_,List.getElem?_eq_getElem hk'⟩
   obtain⟨⟨y0,y1,y2⟩,hy⟩:∃y,lb[k]? = some y:=⟨_,List.getElem?_eq_getElem omq⟩
   have hxe:(la.map T3.E)[k]? = some (E.agg [.int .i64 x0,.int .i64 x1,.str x2]):=by rw [List.getElem?_map,hx];rfl
   have hye:(lb.map T3.E)[k]? = some (E.agg [.int .i64 y0,.int .i64 y1,.str y2]):=by rw [List.getElem?_map,hy];rfl
   by_cases he:((x0,x1,x2):T3)=(y0,y1,y2)
   ·have hq:(!((x0==y0)&&((x1==y1)&&(x2.toList==y2.toList))))=false:=by rw [show ((x0==y0)&&((x1==y1)&&(x2.toList==y2.toList)))=decide (((x0,x1,x2):T3)=(y0,y1,y2)) from xT (x0,x1,x2) (y0,y1,y2),decide_eq_true he];rfl
    repeat' (first|(apply dc;refine pO hq ?_)|(apply av;first|refine ak ?_|refine ai ?_|refine aw ?_)|refine aj ?_|refine ab ?_|(apply dc;first|(apply dx;refine aH ?_)|refine ew ?_|refine mo ?_)|refine aj ?_|refine ab ?_|refine aa fun C=>?_|refine au (by kernel_rfl) (by kernel_rfl) fun C=>?_|refine ac ?_|refine ah ?_|refine al ?_|refine ar rfl ?_)
    refine⟨N-1,k+1,omq,⟨omq,fun j p q hj hp hq=>?_⟩,?_⟩
    ·by_cases e:j=k
     ·rw [e,hx] at hp;rw [e,hy] at hq;injection hp with hp;injection hq with hq;subst hp hq;exact he
     ·exact hno j p q omq hp hq
    ·(refine aN _ _ rfl rfl ?_ ?_<;>exact tdy0)
   ·have hq:(!((x0==y0)&&((x1==y1)&&(x2.toList==y2.toList))))=true:=by rw [show ((x0==y0)&&((x1==y1)&&(x2.toList==y2.toList)))=decide (((x0,x1,x2):T3)=(y0,y1,y2)) from xT (x0,x1,x2) (y0,y1,y2),decide_eq_false he];rfl
    repeat' (first|(apply dc;refine pO hq ?_)|(apply av;first|refine ak ?_|refine ai ?_)|refine aj ?_|refine ab ?_|(apply dc;first|(apply dx;refine aH ?_)|refine ew ?_|refine mo ?_)|refine aj ?_|refine ab ?_|refine aa fun C=>?_|refine au (by kernel_rfl) (by kernel_rfl) fun C=>?_|refine ac ?_|refine ah ?_|refine al ?_|refine aq rfl ?_)
    refine am ?_;refine bv rfl aJ ⟨?_,rfl⟩
    rw [decide_eq_false (zjQ hx hy he)]
  ·have hk':¬k<la.length:=by
    have h2:decide ((k:Int)<((la.map T3.E).length:Int))=false:=h2
    rw [hl1] at h2
    simpa using h2
   repeat' (first|(apply av;refine ai ?_)|refine aj ?_|refine ab ?_|refine aa fun C=>?_|refine ac ?_|refine aB ?_)
   refine am ?_;refine bv rfl aJ ⟨?_,rfl⟩
   rw [decide_eq_true (xU hl fun j x y hj hx hy=>hno j x y omq hx hy)]
theorem il (s:ByteArray):(gx s).length≤2000:=by
 obtain⟨l,r',e,-,hl,-⟩:=pC s
 unfold gx
 rw [List.length_map,e,List.length_map]
 exact hl
def stB (s t:ByteArray):Bool:=decide ((iq s).2 = -1)&&(decide ((iq t).2 = -1)&&decide (gx s=gx t))
theorem tY {s t:ByteArray}(hs:s.size≤1048576)(ht:t.size≤1048576):Ctr prog 27 [.c (.v (.string s)),.c (.v (.string t))] [] (.c (.v (.bool (stB s t)))) []:=by
 have c1:=l8 hs
 have c2:=l8 ht
 rw [(db s).2] at c1
 rw [(db t).2] at c2
 have l1:=il s
 have l2:=il t
 have c3:=tX (la:=gx s) (lb:=gx t) omq omq
 unfold stB
 generalize (iq s).2=p1 at *
 generalize (iq t).2=p2 at *
 generalize gx s=la at *
 generalize gx t=lb at *
 have e1:(p1==-1)=decide (p1 = -1):=by rw [Bool.eq_iff_iff];simp
 have e2:(p2==-1)=decide (p2 = -1):=by rw [Bool.eq_iff_iff];simp
 refine ay func27 rfl rfl ?_
 by_cases h1:p1 = -1
 ·subst h1
  by_cases h2:p2 = -1
  ·subst h2
   repeat' (first|(apply av;first|(refine aK ?_ ?_<;>intro hG<;>(try cases hG))|refine ak ?_|refine dI (v:=.tu _) ?_|refine ai ?_|refine dp c1 ?_|refine dp c2 ?_|refine aG c3 ?_|refine ao ?_|refine aA ?_|refine cK ?_)|refine aj ?_|refine ab ?_|refine aa fun C=>?_|refine ac ?_)
   refine am ?_;refine bv rfl aJ ⟨?_,rfl⟩;simp
  ·rw [decide_eq_false h2]
   repeat' (first|(apply av;first|refine bC ?_|(refine aK ?_ ?_<;>intro hG<;>(try cases hG))|refine ak ?_|refine dI (v:=.tu _) ?_|refine ai ?_|refine dp c1 ?_|refine dp c2 ?_|refine aG c3 ?_|refine ao ?_|refine aA ?_|refine cK ?_)|refine aj ?_|refine ab ?_|refine aa fun C=>?_|refine ac ?_)
   all_goals first
    | (exfalso;exact h2 (eq_of_beq hG))
    | (refine am ?_;refine bv rfl aJ ⟨?_,rfl⟩;simp;done)
    | (refine am ?_;refine bv rfl aJ ⟨?_,rfl⟩;clear c1 c2 c3;simp_all;done)
 ·rw [decide_eq_false h1]
  repeat' (first|(apply av;first|refine bC ?_|(refine aK ?_ ?_<;>intro hG<;>(try cases hG))|refine ak ?_|refine dI (v:=.tu _) ?_|refine ai ?_|refine dp c1 ?_|refine dp c2 ?_|refine aG c3 ?_|refine ao ?_|refine aA ?_|refine cK ?_)|refine aj ?_|refine ab ?_|refine aa fun C=>?_|refine ac ?_)
  all_goals first
   | (exfalso;exact h1 (eq_of_beq hG))
   | (refine am ?_;refine bv rfl aJ ⟨?_,rfl⟩;simp;done)
   | (refine am ?_;refine bv rfl aJ ⟨?_,rfl⟩;clear c1 c2 c3;simp_all;done)
theorem rtq3 {p:Prop}(h:p:=by refine am ?_;refine bv rfl (bS (aD (bh (aS rfl (aS rfl (aS rfl (bB rfl rfl rfl cls0 aV))))) (aD aJ bc))) ⟨?_,rfl⟩;rfl):p:=h
theorem zn2:∀(f:Nat) (e:E),FnX e→kC 100 dv f e≤100→e.sz+1≤202*kC 100 dv f e
 | 0,e,_,h=>absurd h (by show ¬100+1≤100;omega)
 | f+1,e,hf,h=>by
  have h1:gpS 100 (kC 100 dv f) (dv e) 1≤100:=h
  have h2:=qQ _ _ h1
  show e.sz+1≤202*gpS 100 (kC 100 dv f) (dv e) 1
  rw [h2]
  have hm:=lQ _ _ h1
  cases hf with
  | mk k n s l hk hn hs hl =>
  have h5:dv (xE k n s l)=l:=rfl
  rw [h5] at hm ⊢
  have key:∀r:List E,(∀x∈r,x∈l)→E.szL r+r.length≤202*sumC (kC 100 dv f) r:=fun r=>by
   induction r with
   | nil=>intro _;exact Nat.zero_le _
   | cons x r ih =>
    intro hr
    have i1:=ih fun y hy=>hr y (List.mem_cons_of_mem _ hy)
    have i2:=zn2 f x (hl x (hr x (List.mem_cons_self ..))) (hm x (hr x (List.mem_cons_self ..)))
    simp only [E.szL,List.length_cons,sumC]
    omega
  have:=key l fun _ h=>h
  rw [gy]
  omega
theorem l9 {e:E}(hf:FnX e)(hb:fx e=true):e.sz≤20300∧(txE e).size≤1048576:=by
 unfold fx at hb
 rw [Bool.and_eq_true,decide_eq_true_iff] at hb
 have h1:kC 100 dv 10 e≤100:=hb.1
 have h2:=zn2 10 e hf h1
 have h3:=ss hf.ty.1
 omega
theorem ma {e:E}(he:e.Ty prog 26)(hsz:e.sz≤1048576)(hb:fx e=true):Ctr prog 8 [.ag (acE e)] [] (.c (.v (.string (txE e)))) []:=by
 have c1:=kb he hsz
 have c2:=mX (e.sz+1) e he omq omq (n8 hb)
 rw [hb] at c1
 generalize txE e=T at *
 obtain⟨k0,n0,s0,xA,xc,l,rfl,-⟩:=aO he
 refine ay func8 rfl rfl ?_
 repeat' (first|(apply av;first|refine ai ?_|refine bL ?_|refine aG c1 ?_|refine aG c2 ?_|refine bM ?_|refine cB ?_)|refine aj ?_|refine ab ?_|refine aa fun C=>?_|refine ac ?_|refine al ?_|refine ar rfl ?_)
 exact eo
def pxI (s:ByteArray):Bool:=!(rdI s).2.b&&(fx (rdI s).1&&stB (txE (rdI s).1) s)
theorem rg (s:ByteArray):pxI s=true↔acI s:=by
 unfold pxI acI stB
 simp only [Bool.and_eq_true,Bool.not_eq_true',decide_eq_true_iff]
 rw [(db s).2,(db (txE (rdI s).1)).2]
 constructor
 ·rintro ⟨h1,h2,h3,h4,h5⟩;exact⟨h1,h2,h3,h4,by rw [h5]⟩
 ·rintro ⟨h1,h2,h3,h4,h5⟩;exact⟨h1,h2,h3,h4,zj2 h5⟩
def pxE (s:ByteArray):E:=if pxI s=true then (rdI s).1 else zE
theorem xV (s:ByteArray):PI (gx s) ((gx s).length+12) ⟨0,false⟩ (rdI s).1 (rdI s).2:=xF (db s).1 _ _ (fun _=>Nat.zero_le _)
theorem mb {s:ByteArray}(hs:s.size≤1048576):Ctr prog 11 [.c (.v (.string s))] [] (.tu [.ag (owE (pxE s)),.c (.v (.bool (pxI s)))]) []:=by
 have c1:=l8 hs
 rw [(db s).2] at c1
 have hl:=il s
 have k2:=xR (il s) (db s).1 ((gx s).length+12) omq ⟨0,false⟩ (fun _=>Nat.zero_le _) (fun _=>by dsimp only;omega)
 rw [show exI (gx s) ((gx s).length+12) ⟨0,false⟩=rdI s from rfl] at k2
 have hp:=xV s
 have hn:=hp.n
 have hf:=hp.fine
 have c5:fx (rdI s).1=true→Ctr prog 27 [.c (.v (.string (txE (rdI s).1))),.c (.v (.string s))] [] (.c (.v (.bool (stB (txE (rdI s).1) s)))) []:=fun h=>tY (l9 hf h).2 hs
 have c4:fx (rdI s).1=true→Ctr prog 8 [.ag (acE (rdI s).1)] [] (.c (.v (.string (txE (rdI s).1)))) []:=fun h=>ma hf.ty.1 (by have:=(l9 hf h).1;omega) h
 have c3:(rdI s).2.b=false→Ctr prog 10 [.ag (acE (rdI s).1)] [] (.c (.v (.bool (fx (rdI s).1)))) []:=fun h=>by
  have h0:(rdI s).2.b.toNat=0:=by rw [h];rfl
  have h1:=hn.2.2.1 h0
  dsimp only at h1
  exact kb hf.ty.1 omq
 unfold pxE pxI
 clear hn hp
 generalize rdI s=x at *
 obtain⟨e,⟨a,b⟩⟩:=x
 dsimp only at *
 generalize gx s=L at *
 generalize (iq s).2=p at *
 generalize stB (txE e) s=st at *
 generalize txE e=T at *
 generalize fx e=eb at *
 cases hf with
 | mk k n u l _ _ _ _ =>
 unfold dz at k2
 dsimp only at k2
 refine ay func11 rfl rfl ?_
 refine ac ?_
 refine aa fun C=>?_
 repeat' (first|(apply av;first|refine bC ?_|(apply ua;first|(refine aK ?_ ?_<;>intro hG<;>(try cases hG))|refine ak ?_|refine dI (v:=.tu _) ?_|refine az ?_)|(apply ub;first|refine ai ?_|refine n_asv (v:=.tu _) ?_|refine az ?_)|refine ba ?_|refine iG ?_|refine aI ?_|refine dy ?_|refine cS ?_|refine bL ?_|refine ql ?_|refine bg ?_|refine n_sto ?_|(apply f_no;first|refine bM ?_|refine az ?_)|(apply f_pk;first|refine aA ?_|refine n_pkv (v:=.tu _) ?_|refine az ?_)|(apply qn;first|refine cK ?_|refine n_exv (v:=.tu _) ?_|refine az ?_)|refine bI ?_|refine cB ?_|refine az ?_)|refine aj ?_|refine ab ?_)
 refine ac ?_
 refine aa fun C=>?_
 repeat' (first|(apply av;first|refine bC ?_|(apply ua;first|(refine aK ?_ ?_<;>intro hG<;>(try cases hG))|refine ak ?_|refine dI (v:=.tu _) ?_|refine az ?_)|(apply ub;first|refine ai ?_|refine n_asv (v:=.tu _) ?_|refine az ?_)|refine ba ?_|refine iG ?_|refine aI ?_|refine dy ?_|refine cS ?_|refine bL ?_|refine ql ?_|refine aG c1 ?_|refine dp c1 ?_|refine bg ?_|refine n_sto ?_|(apply f_no;first|refine bM ?_|refine az ?_)|(apply f_pk;first|refine aA ?_|refine n_pkv (v:=.tu _) ?_|refine az ?_)|(apply qn;first|refine cK ?_|refine n_exv (v:=.tu _) ?_|refine az ?_)|refine bI ?_|refine cB ?_|refine az ?_)|refine aj ?_|refine ab ?_)
 refine a7 (zx7 (t:=4) (j:=1100) rfl rfl (l7 _)) ?_
 cases b with
 | true =>
  rw [show (!true&&(eb&&st))=false from rfl,if_neg (by simp)]
  repeat' (first|(apply av;first|refine bC ?_|(refine aK ?_ ?_<;>intro hG<;>(try cases hG))|refine ak ?_|refine ai ?_|refine ba ?_|refine aI ?_|refine aF 15 (k2) ?_ (hl:=cH (by rfl) bX)|refine bg ?_|refine aA ?_|refine bI ?_|refine cB ?_|refine az ?_)|refine aj ?_|refine ab ?_|refine aa fun C=>?_|refine ac ?_|refine aq rfl ?_)
  refine a7 (cR 90000 (i:=2) 26 4 rfl rfl (pre:=[_,_,_]) (post:=[]) rfl) ?_
  exact rtq3
 | false =>
  have c3:=c3 rfl
  cases eb with
  | false =>
   rw [show (!false&&(false&&st))=false from rfl,if_neg (by simp)]
   repeat' (first|(apply av;first|refine bC ?_|(refine aK ?_ ?_<;>intro hG<;>(try cases hG))|refine ak ?_|refine ai ?_|refine ba ?_|refine aI ?_|refine bL ?_|refine aF 15 (k2) ?_ (hl:=cH (by rfl) bX)|refine aG c3 ?_|refine bg ?_|refine bM ?_|refine aA ?_|refine bI ?_|refine cB ?_|refine az ?_)|refine aj ?_|refine ab ?_|refine aa fun C=>?_|refine ac ?_|refine aq rfl ?_)
   refine a7 (cR 90000 (i:=2) 26 4 rfl rfl (pre:=[_,_,_]) (post:=[]) rfl) ?_
   exact rtq3
  | true =>
   have c4:=c4 rfl
   have c5:=c5 rfl
   cases st with
   | false =>
    rw [show (!false&&(true&&false))=false from rfl,if_neg (by simp)]
    repeat' (first|(apply av;first|(refine aK ?_ ?_<;>intro hG<;>(try cases hG))|refine ak ?_|refine ai ?_|refine ba ?_|refine aI ?_|refine bL ?_|refine aF 15 (k2) ?_ (hl:=cH (by rfl) bX)|refine aG c3 ?_|refine aG c4 ?_|refine aG c5 ?_|refine bg ?_|refine bM ?_|refine aA ?_|refine bI ?_|refine cB ?_|refine az ?_)|refine aj ?_|refine ab ?_|refine aa fun C=>?_|refine ac ?_|refine aq rfl ?_)
    refine a7 (cR 90000 (i:=2) 26 4 rfl rfl (pre:=[_,_,_]) (post:=[]) rfl) ?_
    exact rtq3
   | true =>
    rw [show (!false&&(true&&true))=true from rfl,if_pos rfl]
    repeat' (first|(apply av;first|(refine aK ?_ ?_<;>intro hG<;>(try cases hG))|refine ak ?_|refine ai ?_|refine ba ?_|refine aI ?_|refine bL ?_|refine aF 15 (k2) ?_ (hl:=cH (by rfl) bX)|refine aG c3 ?_|refine aG c4 ?_|refine aG c5 ?_|refine bg ?_|refine bM ?_|refine aA ?_|refine bI ?_|refine cB ?_|refine az ?_)|refine aj ?_|refine ab ?_|refine aa fun C=>?_|refine ac ?_|refine al ?_|refine ar rfl ?_)
    exact rtq3
end Go.Proofs.YtomolhbkdhjofaaGreatDoor
