/- T -/
import Derived.Test.YtomolhbkdhjofaaGreatDoorExAAD
set_option maxHeartbeats 0
set_option maxRecDepth 100000
namespace Go.Proofs.YtomolhbkdhjofaaGreatDoor
open Go.RowKit Go.Proofs.Tryz
theorem clsR {p:Prop}(h:p:=by first|exact bW|exact ww _ _|exact rdrU_clo|exact rdrU_c _ _):p:=h
def di (L:List T3)(r:RI):List AC:=[.ro (L.map T3.E).length 3 (acL (L.map T3.E)),.v (.int .i64 (r.a:Int)),.v (.bool r.b)]
theorem bW {L:List T3}{x y:Value}:bi [.ro (L.map T3.E).length 3 (acL (L.map T3.E)),.v x,.v y]=true:=by simp [bi,clo,aG]
theorem ww (L:List T3)(r:RI):bi (di L r)=true:=bW
theorem t3_at {L:List T3}{a:Nat}(h:a<L.length):(L.map T3.E)[a]? = some (.agg [.int .i64 (tAt L a).1,.int .i64 (tAt L a).2.1,.str (tAt L a).2.2]):=by
 rw [List.getElem?_map,List.getElem?_eq_getElem h]
 unfold tAt
 rw [List.getD_eq_getElem?_getD,List.getElem?_eq_getElem h,Option.getD_some]
 rfl
theorem t3_no {L:List T3}{a:Nat}(h:¬a<L.length):tAt L a=(0,0,ByteArray.empty):=by
 unfold tAt
 rw [List.getD_eq_getElem?_getD,List.getElem?_eq_none omq];rfl
theorem tks_enc' {l:List T3}:∀e∈l.map T3.E,e.enc.length=3:=fun e he=>by obtain⟨t,-,rfl⟩:=List.mem_map.1 he;rfl
theorem gG {L:List T3}(hL:L.length≤2000){r:RI}(ha:r.a≤100000){j:Nat}(hj:j≤1){z:Int}(hz:z=(j:Int)):Ctr prog 48 [.c (.pt 0 0),.c (.v (.int .i64 z))] [di L r] (.ag [.v (.int .i64 (tAt L (r.a+j)).1),.v (.int .i64 (tAt L (r.a+j)).2.1),.v (.string (tAt L (r.a+j)).2.2)]) [di L r]:=by
 obtain⟨a,b⟩:=r
 dsimp only at ha ⊢
 have hk:=tks_enc' (l:=L)
 have hlen:L.length=(L.map T3.E).length:=(List.length_map ..).symm
 refine av func48 rfl rfl ?_
 unfold di
 dsimp only
 by_cases h:a+j<L.length
 ·have hx:=t3_at h
  have hi:(a:Int)+z=((a+j:Nat):Int):=by omega
  repeat' (first|(apply ay;refine bZ ?_)|refine ak ?_|refine ab ?_|(apply dC;first|(apply ep;refine aN ?_)|refine fA ?_|refine cY ?_|refine ib ?_|(apply ic;first|refine dE ?_|refine aN ?_)|refine aN ?_)|refine ak ?_|refine ab ?_|refine aa fun C=>?_|refine ar (by kernel_rfl) (by kernel_rfl) fun C=>?_|refine ac ?_)
  refine ae (by rfl) (fun hC=>by exfalso;simp only [decide_eq_true_iff] at hC;omega) fun hC=>?_
  repeat' (first|(apply dC;first|(apply ep;refine aN ?_)|refine fA ?_|refine cY ?_|refine fY ?_|refine pn ?_|refine rZ ?_|refine dE ?_|refine aN ?_)|refine ak ?_|refine ab ?_|refine ar (by kernel_rfl) (by kernel_rfl) fun C=>?_|refine ac ?_|refine aj ?_)
  refine am ?_;refine dw rfl (aZ (aE rfl (aE rfl (aE rfl aL)))) rfl clsR rfl ⟨?_,?_⟩<;>rfl
 ·rw [t3_no h]
  repeat' (first|(apply ay;refine bZ ?_)|refine ak ?_|refine ab ?_|(apply dC;first|(apply ep;refine aN ?_)|refine fA ?_|refine cY ?_|refine ib ?_|(apply ic;first|refine dE ?_|refine aN ?_)|refine aN ?_)|refine ak ?_|refine ab ?_|refine aa fun C=>?_|refine ar (by kernel_rfl) (by kernel_rfl) fun C=>?_|refine ac ?_)
  refine ae (by rfl) (fun hC=>?_) fun hC=>by exfalso;simp only [decide_eq_false_iff_not] at hC;omega
  repeat' (first|(apply ay;first|refine bC ?_|refine az ?_)|refine ak ?_|refine ab ?_|refine aa fun C=>?_|refine ac ?_)
  refine am ?_;refine dw rfl (aZ (aE rfl (aE rfl (aE rfl aL)))) rfl clsR rfl ⟨?_,?_⟩<;>rfl
theorem ni (s t:ByteArray):(s.toList==t.toList)=decide (s=t):=by
 rw [Bool.eq_iff_iff]
 simp only [beq_iff_eq,decide_eq_true_iff]
 exact⟨fun h=>by cases s;cases t;simpa [ByteArray.toList_eq] using h,fun h=>by rw [h]⟩
theorem oM {L:List T3}(hL:L.length≤2000){r:RI}(ha:r.a≤100000){j:Nat}(hj:j≤1){z:Int}(hz:z=(j:Int))(s:ByteArray):Ctr prog 50 [.c (.pt 0 0),.c (.v (.int .i64 z)),.c (.v (.string s))] [di L r] (.c (.v (.bool (isI L r j s)))) [di L r]:=by
 have c1:=gG hL ha hj hz
 refine av func50 rfl rfl ?_
 unfold isI
 generalize tAt L (r.a+j)=t at *
 obtain⟨k,n,u⟩:=t
 unfold di at *
 dsimp only at c1 ⊢
 by_cases h5:k=5
 ·subst h5
  repeat' (first|(apply ay;first|refine bX ?_|(refine aR ?_ ?_<;>intro hG<;>(try cases hG))|refine al ?_|refine ai ?_|refine bj ?_|refine aI ?_|refine aK 0 (c1) ?_|refine bC ?_|refine ao ?_|refine aQ ?_|refine aB ?_|refine bZ ?_)|refine ak ?_|refine ab ?_|refine aa fun C=>?_|refine ac ?_)
  all_goals
   refine am ?_;refine dw rfl aH rfl clsR rfl ⟨?_,?_⟩
   ·first|(simp [ni];done)|(simp_all [ni];done)
   ·rfl
 ·by_cases h2:k=2
  ·subst h2
   repeat' (first|(apply ay;first|(refine aR ?_ ?_<;>intro hG<;>(try cases hG))|refine al ?_|refine ai ?_|refine bj ?_|refine aI ?_|refine aK 0 (c1) ?_|refine bC ?_|refine ao ?_|refine aQ ?_|refine aB ?_|refine bZ ?_)|refine ak ?_|refine ab ?_|refine aa fun C=>?_|refine ac ?_)
   all_goals
    refine am ?_;refine dw rfl aH rfl clsR rfl ⟨?_,?_⟩
    ·first|(simp [ni];done)|(simp_all [ni];done)
    ·rfl
  ·repeat' (first|(apply ay;first|refine bX ?_|(refine aR ?_ ?_<;>intro hG<;>(try cases hG))|refine al ?_|refine ai ?_|refine bj ?_|refine aI ?_|refine aK 0 (c1) ?_|refine bC ?_|refine ao ?_|refine aQ ?_|refine aB ?_|refine bZ ?_)|refine ak ?_|refine ab ?_|refine aa fun C=>?_|refine ac ?_)
   all_goals first
    | (exfalso;simp_all;done)
    | (refine am ?_;refine dw rfl aH rfl clsR rfl ⟨?_,?_⟩
       ·first|(simp [ni];done)|(simp_all [ni];done)
       ·rfl)
section
variable {L:List T3}
structure PS' (L:List T3)(f:Nat)(r:RS)(e:E)(r':RS):Prop where
 fine:FnX e
 n:r.a≤r'.a∧r'.a≤L.length∧r.b.toNat≤r'.b.toNat∧(r'.b.toNat=0→r'.d=r.d∧e.sz+1+250*r.a≤250*r'.a)∧r.d≤r'.d∧r'.d≤r.d+f+1∧(r.b.toNat=1→r'.d≤r.d+1)
variable {g:RS→E×RS}{f:Nat}
end
def Qn (K:Act→World→Prop)(Q:Exit→Act→World→Prop):Exit→Act→World→Prop
 | .normal,a,w=>K a w
 | .exit l,a,w=>Q (.exit l) a w
 | .goto l,a,w=>Q (.goto l) a w
 | .ret,a,w=>Q .ret a w
 | .panic c,a,w=>Q (.panic c) a w
 | .outgrown,a,w=>Q .outgrown a w
section
variable {P:Program}{ops:Array Oper}{Q:Exit→Act→World→Prop}{C:Ctx}
theorem wp_Qn {o:Oper}{a:Act}{w:World}{K K':Act→World→Prop}(hh:o.wp P a w K (Qn K' Q)):o.wp P a w K Q:=by
 unfold Oper.wp at *
 generalize (execOp a.eval o).run P w=r at *
 cases r with
 | ok n w' =>
  cases n<;>simp only [Oper.upon] at hh ⊢ <;>
   first
    | exact hh
    | exact Calls.mono hh (fun e w'' he=>by cases e<;>exact he)
 | halt x w'=>cases x<;>simp only [Oper.upon] at hh ⊢<;>exact hh
theorem oN {l2:List Nat}:∀(l1:List Nat) (a:Act) (w:World),wpOps P ops (Qn (wpOps P ops Q l2) Q) l1 a w→wpOps P ops Q (l1++l2) a w
 | [],_,_,h=>h
 | i :: r,a,w,h=>by
  rw [List.cons_append,wpOps_cons]
  rw [wpOps_cons] at h
  have h2:=wpOp_mono (fun a w h=>oN r a w h) h
  unfold wpOp at h2 ⊢
  split
  ·rename_i ho
   simp only [ho] at h2
   exact h2
  ·rename_i o ho
   simp only [ho] at h2
   split
   ·rename_i hw
    simp only [hw,if_true] at h2
    exact h2.imp wp_Qn id
   ·rename_i hw
    simp only [hw] at h2
    exact h2
theorem ru {L:List Nat}{σ:AS}(hL:L.Pairwise (·< ·))(h:Walk P ops Q C false [] L σ){a:Act}{w:World}(hs:Sim C σ a w):wpOps P ops Q L a w:=by
 obtain⟨inf,_,h2,-⟩:=iZ hL (fun h hh=>absurd hh List.not_mem_nil) (fun h hh=>absurd hh List.not_mem_nil) List.Pairwise.nil h
 exact kq h2 hs
end
theorem lk {Q:Exit→AS→Prop}{P:Program}{id:Nat}{ops:Array Oper}{σ:AS}(l1 l2:List Nat)(hl:List.range ops.size=l1++l2)(h:∀C,Walk P ops (Qn (wpOps P ops (fun e a w=>∃σ',Q e σ'∧Sim C σ' a w) l2) (fun e a w=>∃σ',Q e σ'∧Sim C σ' a w)) C false [] l1 σ):AWp P (.region id ops false) Q σ:=fun C a w hs=>by
 refine wp_region ?_
 rw [hl]
 have hp:=gp ops.size
 rw [hl] at hp
 exact oN l1 a w (ru (List.pairwise_append.1 hp).1 (h C) hs)
theorem rv {Q:Exit→AS→Prop}{P:Program}{ops:Array Oper}{C:Ctx}{l2:List Nat}{σ σ':AS}(hg:Gh σ σ')(hL:l2.Pairwise (·< ·))(h:Walk P ops (fun e a w=>∃σ',Q e σ'∧Sim C σ' a w) C false [] l2 σ'):Walk P ops (Qn (wpOps P ops (fun e a w=>∃σ',Q e σ'∧Sim C σ' a w) l2) (fun e a w=>∃σ',Q e σ'∧Sim C σ' a w)) C false [] [] σ:=fun a w hs=>ru hL h (hg C a w hs)
theorem zS {k:Int}{l:List E}:CtrT prog 43 [.c (.v (.int .i64 k)),.c .un] 1 26 4 l.length (owL l) (.ag (owE (xE k 0 ByteArray.empty l))) none:=by
 refine zk func43 rfl rfl rfl ?_
 unfold σT
 repeat' (first|(apply ay;first|refine al ?_|refine bC ?_|refine bZ ?_|refine az ?_)|refine ak ?_|refine ab ?_|refine aa fun C=>?_|refine ac ?_)
 refine am ?_;refine bv rfl (aZ (aE rfl (aE rfl (aE rfl (ba rfl rfl rfl cls0 aL))))) ⟨?_,rfl⟩
 rfl
theorem wx {n:Int}:Ctr prog 91 [.c (.v (.int .i64 n))] [] (.ag (owE (xE 1 n ByteArray.empty []))) []:=by
 refine av func91 rfl rfl ?_
 repeat' (first|(apply ay;first|refine al ?_|refine bC ?_|refine bZ ?_|refine az ?_)|refine ak ?_|refine ab ?_|refine aa fun C=>?_|refine ac ?_)
 refine bk (cP 90000 (i:=2) 26 4 rfl rfl (pre:=[_,_,_]) (post:=[]) rfl) ?_
 refine am ?_;refine bv rfl (aZ (aE rfl (aE rfl (aE rfl (ba rfl rfl rfl cls0 aL))))) ⟨?_,rfl⟩
 rfl
theorem zu2 {s:ByteArray}:Ctr prog 96 [.c (.v (.string s))] [] (.ag (owE (xE 3 0 s []))) []:=by
 refine av func96 rfl rfl ?_
 repeat' (first|(apply ay;first|refine al ?_|refine bC ?_|refine bZ ?_|refine az ?_)|refine ak ?_|refine ab ?_|refine aa fun C=>?_|refine ac ?_)
 refine bk (cP 90000 (i:=2) 26 4 rfl rfl (pre:=[_,_,_]) (post:=[]) rfl) ?_
 refine am ?_;refine bv rfl (aZ (aE rfl (aE rfl (aE rfl (ba rfl rfl rfl cls0 aL))))) ⟨?_,rfl⟩
 rfl
theorem tdy3 {p:Prop}(h:p:=by repeat' (first|exact TmOk.nil|exact RwOk.nil|refine TmOk.cons ?_ ?_|refine RwOk.cons ?_ ?_|rfl|exact gf rfl rfl (ww _ _)|exact gf rfl rfl bW|exact gf rfl rfl (rdrU_c _ _)|exact gf rfl rfl rdrU_clo|(refine rnV_id' rfl ?_;exact byc)|(refine cV ?_;first|rfl|omega|(rw [bM omq omq];omega))|(refine bq rfl ?_;exact byc)|exact d5 rfl rfl|(refine rw_mid (by rfl) (by rfl) ?_ ?_<;>exact byc)|(refine rw_rn' rfl rfl ?_;simp;done))):p:=h
theorem eB {L:List T3}(hL:L.length≤2000){r:RI}(ha:r.a≤100000)(s:ByteArray):Ctr prog 84 [.c (.pt 0 0),.c (.ro 1 1 [.v (.string s)])] [di L r] (.tu []) [di L (waI L r s)]:=by
 have c1:=oM hL ha (j:=0) omq (z:=0) rfl s
 obtain⟨a,b⟩:=r
 obtain⟨b2,hb2⟩:∃x,(b||!isI L ⟨a,b⟩ 0 s)=x:=⟨_,rfl⟩
 unfold waI
 dsimp only at ha ⊢
 rw [hb2]
 unfold di at *
 dsimp only at c1 ⊢
 refine av func84 rfl rfl ?_
 repeat' (first|(apply ay;first|refine al ?_|refine bE ?_)|refine ak ?_|refine ab ?_|refine aa fun C=>?_|refine ac ?_|refine ah ?_)
 refine a8 (fun d:Nat×Int×Bool=>⟨eX [(0,.c (.pt 0 0)),(6,.c (.ro 1 1 [.v (.string s)])),(7,.c (.v (.int .i64 1))),(8,.c (.v (.int .i64 d.1)))],eJ [(0,0,⟨0,0,0,true,[.ro (L.map T3.E).length 3 (acL (L.map T3.E)),.v (.int .i64 d.2.1),.v (.bool d.2.2)]⟩)],1,[0],27⟩)
  (fun N d=>(d.1=0∧N=1∧d.2.1=(a:Int)∧d.2.2=b)∨(d.1=1∧d.2.1=((a+1:Nat):Int)∧d.2.2=b2)) 1 (0,(a:Int),b) (.inl ⟨rfl,rfl,rfl,rfl⟩) ?_ ?_
 ·(refine aM _ _ rfl rfl ?_ ?_<;>exact tdy3)
 rintro N ⟨j,x,y⟩ hd
 dsimp only at hd ⊢
 rcases hd with ⟨rfl,rfl,rfl,rfl⟩|⟨rfl,rfl,rfl⟩
 ·cases hi:isI L ⟨a,y⟩ 0 s with
  | true =>
   rw [hi] at c1 hb2
   obtain rfl:y=b2:=by rw [←hb2];simp
   repeat' (first|(apply ay;first|refine al ?_|refine ai ?_|refine bj ?_|refine aI ?_|refine dO ?_|refine aK 0 (c1) ?_|refine bC ?_|(apply qG;refine az ?_)|refine aD ?_|refine aw ?_|refine b7 ?_|refine az ?_)|refine ak ?_|refine ab ?_|refine aa fun C=>?_|refine ac ?_|refine ah ?_|refine aj ?_|refine aq rfl ?_|refine au rfl ?_)
   refine⟨0,(1,((a+1:Nat):Int),y),omq,.inr ⟨rfl,rfl,rfl⟩,?_⟩
   (refine aM _ _ rfl rfl ?_ ?_<;>exact tdy3)
  | false =>
   rw [hi] at c1 hb2
   obtain rfl:true=b2:=by rw [←hb2];simp
   repeat' (first|(apply ay;first|refine al ?_|refine ai ?_|refine bj ?_|refine aI ?_|refine dO ?_|refine aK 0 (c1) ?_|refine bC ?_|(apply qG;refine az ?_)|refine aD ?_|refine aw ?_|refine b7 ?_|refine az ?_)|refine ak ?_|refine ab ?_|refine aa fun C=>?_|refine ac ?_|refine ah ?_|refine aj ?_|refine aq rfl ?_)
   refine⟨0,(1,((a+1:Nat):Int),true),omq,.inr ⟨rfl,rfl,rfl⟩,?_⟩
   (refine aM _ _ rfl rfl ?_ ?_<;>exact tdy3)
 ·repeat' (first|(apply ay;refine aD ?_)|refine ak ?_|refine ab ?_|refine aa fun C=>?_|refine ac ?_|refine aA ?_|refine au rfl ?_)
  exact dw (x:=.tu []) rfl rfl rfl bW rfl ⟨rfl,rfl⟩
theorem nj {L:List T3}(hL:L.length≤2000){r:RI}(ha:r.a≤100000)(k:Int):Ctr prog 85 [.c (.pt 0 0),.c (.v (.int .i64 k))] [di L r] (.ag [.v (.int .i64 (taI L r k).1.1),.v (.int .i64 (taI L r k).1.2.1),.v (.string (taI L r k).1.2.2)]) [di L (taI L r k).2]:=by
 have c1:=gG hL ha (j:=0) omq (z:=0) rfl
 refine av func85 rfl rfl ?_
 unfold taI
 dsimp only
 rw [Nat.add_zero] at c1
 obtain⟨a,b⟩:=r
 unfold di at *
 dsimp only at ha c1 ⊢
 generalize tAt L a=t at *
 obtain⟨k',n,u⟩:=t
 dsimp only at c1 ⊢
 by_cases hk:k'=k
 ·subst hk
  rw [show (b||!decide (k'=k'))=b by simp]
  repeat' (first|(apply ay;first|refine al ?_|refine bj ?_|refine aI ?_|refine aK 0 (c1) ?_|refine bC ?_|refine aS ?_|refine bZ ?_)|refine ak ?_|refine ab ?_|refine aa fun C=>?_|refine ac ?_)
  refine ae (by rfl) (fun hC=>by exfalso;simp at hC) fun hC=>?_
  repeat' (first|(apply ay;first|refine al ?_|refine bj ?_|refine aI ?_|refine bN ?_|refine bC ?_|refine aw ?_|refine az ?_)|refine ak ?_|refine ab ?_|refine aa fun C=>?_|refine ac ?_|refine aj ?_)
  refine am ?_;refine dw rfl (aZ (aE rfl (aE rfl (aE rfl aL)))) rfl clsR rfl ⟨?_,?_⟩
  ·rfl
  ·rfl
 ·rw [show (b||!decide (k'=k))=true by simp [hk]]
  repeat' (first|(apply ay;first|refine al ?_|refine bj ?_|refine aI ?_|refine aK 0 (c1) ?_|refine bC ?_|refine aS ?_|refine bZ ?_)|refine ak ?_|refine ab ?_|refine aa fun C=>?_|refine ac ?_)
  refine ae (by rfl) (fun hC=>?_) fun hC=>by exfalso;simp at hC;exact hk hC
  repeat' (first|(apply ay;first|refine al ?_|refine bj ?_|refine aI ?_|refine bN ?_|refine bC ?_|refine aw ?_|refine az ?_)|refine ak ?_|refine ab ?_|refine aa fun C=>?_|refine ac ?_)
  refine am ?_;refine dw rfl (aZ (aE rfl (aE rfl (aE rfl aL)))) rfl clsR rfl ⟨?_,?_⟩
  ·rfl
  ·rfl
def HI (L:List T3)(f:Nat)(g:RI→E×RI):Prop:=∀q:RI,TI L q→(q.b=false→L.length+1≤q.a+f)→Ctr prog 26 [.c (.pt 0 0)] [di L q] (.ag (owE (g q).1)) [di L (g q).2]
theorem zv2 {L:List T3}{g:RI→E×RI}{en:ByteArray}{n:Nat}{l:List E}{r:RI}(h:r.b=true∨isI L r 0 en=true):lsI L g en n l r=(l,r):=by
 cases n with
 | zero=>rfl
 | succ n=>unfold lsI;rw [if_pos h]
theorem yK {L:List T3}(hL:L.length≤2000){f:Nat}(hf:f≤3000){g:RI→E×RI}(hg:GI L f g)(hi:HI L f g)(en:ByteArray){r:RI}(ht:TI L r)(hr:r.b=false→L.length+1≤r.a+f)(ha:r.a≤30000) :
 Ctr prog 112 [.c (.pt 0 0),.c (.v (.string en))] [di L r] (.c (.ow 26 (ny L g en r).1.length 4 (owL (ny L g en r).1))) [di L (ny L g en r).2]:=by
 refine av func112 rfl rfl ?_
 repeat' (first|(apply ay;refine ai ?_)|refine ak ?_|refine ab ?_|refine aa fun C=>?_|refine ac ?_|refine ah ?_)
 refine a8 (fun q:List E×RI=>⟨eX [(0,.c (.pt 0 0)),(1,.c (.v (.string en))),(5,.c (.sl 9 q.1.length))],eJ [(0,0,⟨0,0,0,true,di L q.2⟩),(9,9,⟨26,4,q.1.length,false,owL q.1⟩)],1,[0,9],33⟩)
  (fun N q=>TI L q.2∧(q.2.b=false→L.length+2≤q.2.a+N∧L.length+1≤q.2.a+f)∧q.2.a≤60000∧q.1.length+N=L.length+2∧lsI L g en N q.1 q.2=lsI L g en (L.length+2) [] r) (L.length+2) ([],r) ⟨ht,fun h=>⟨by dsimp only;omega,hr h⟩,by dsimp only;omega,by simp,rfl⟩ ?_ ?_
 ·refine (jt 9 (t:=5) 26 4 rfl rfl).trans ?_
  (refine aM _ _ rfl rfl ?_ ?_<;>exact tdy3)
 rintro N ⟨l,q⟩ ⟨k1,k2,k3,k4,k5⟩
 dsimp only at k1 k2 k3 k4 k5 ⊢
 by_cases hend:q.b=true∨isI L q 0 en=true
 ·rw [zv2 hend] at k5
  have cw:=eB hL (r:=q) omq en
  unfold ny
  rw [←k5]
  dsimp only
  clear k5 hi hg
  have c1:=oM hL (r:=q) omq (j:=0) omq (z:=0) rfl en
  obtain⟨a,b⟩:=q
  rcases hend with h|h
  ·have h:b=true:=h
   subst h
   clear c1
   unfold di at *
   dsimp only at cw ⊢
   repeat' (first|(apply ay;first|refine bX ?_|(refine aR ?_ ?_<;>intro hG<;>(try cases hG))|refine al ?_|refine ai ?_|refine bj ?_|refine aI ?_|refine d8 0 [30] (cw) ?_ (hl:=bz (by rfl) bW)|refine b7 ?_|refine aB ?_|refine dX ?_|refine az ?_)|refine ak ?_|refine ab ?_|refine aa fun C=>?_|refine ac ?_|refine aA ?_|refine au rfl ?_)
   refine am ?_;refine dw rfl (lC (ba rfl rfl rfl cls0 aL)) rfl clsR rfl ⟨?_,?_⟩<;>rfl
  ·rw [h] at c1
   unfold di at *
   dsimp only at cw c1 ⊢
   cases b with
   | true =>
    repeat' (first|(apply ay;first|refine bX ?_|(refine aR ?_ ?_<;>intro hG<;>(try cases hG))|refine al ?_|refine ai ?_|refine bj ?_|refine aI ?_|refine d8 0 [30] (cw) ?_ (hl:=bz (by rfl) bW)|refine b7 ?_|refine aB ?_|refine dX ?_|refine az ?_)|refine ak ?_|refine ab ?_|refine aa fun C=>?_|refine ac ?_|refine aA ?_|refine au rfl ?_)
    refine am ?_;refine dw rfl (lC (ba rfl rfl rfl cls0 aL)) rfl clsR rfl ⟨?_,?_⟩<;>rfl
   | false =>
    repeat' (first|(apply ay;first|(refine aR ?_ ?_<;>intro hG<;>(try cases hG))|refine al ?_|refine ai ?_|refine bj ?_|refine aI ?_|refine aK 0 (c1) ?_|refine d8 0 [30] (cw) ?_ (hl:=bz (by rfl) bW)|refine b7 ?_|refine aB ?_|refine dX ?_|refine az ?_)|refine ak ?_|refine ab ?_|refine aa fun C=>?_|refine ac ?_|refine aA ?_|refine au rfl ?_)
    refine am ?_;refine dw rfl (lC (ba rfl rfl rfl cls0 aL)) rfl clsR rfl ⟨?_,?_⟩<;>rfl
 ·have hb:q.b=false:=by cases h:q.b with
   | false=>rfl
   | true=>exact absurd (.inl h) hend
  have hni:isI L q 0 en=false:=by cases h:isI L q 0 en with
   | false=>rfl
   | true=>exact absurd (.inr h) hend
  obtain⟨k6,k7⟩:=k2 hb
  have hqa:q.a≤L.length:=k1 (by rw [hb];rfl)
  obtain⟨M,rfl⟩:∃M,N=M+1:=⟨N-1,omq⟩
  have c1:=oM hL (r:=q) omq (j:=0) omq (z:=0) rfl en
  rw [hni] at c1
  have hst:lsI L g en (M+1) l q=lsI L g en M (l++[(g (if l=[] then q else waI L q ⟨#[44]⟩)).1]) (g (if l=[] then q else waI L q ⟨#[44]⟩)).2:=by
   show (if q.b=true∨isI L q 0 en=true then _ else _)=_
   rw [if_neg hend]
  rw [hst] at k5
  clear hst hend
  have key:∀q1:RI,TI L q1→q.a≤q1.a∧(q1.b.toNat=0→q1.a≤L.length)→PI L f q1 (g q1).1 (g q1).2:=fun q1 h1 _=>hg q1 h1
  by_cases hl:l=[]
  ·rw [if_pos hl] at k5
   subst hl
   have hic:=hi q k1 (fun _=>k7)
   have hgd:=hg q k1
   obtain⟨⟨e,q2⟩,hq2⟩:∃x,g q=x:=⟨_,rfl⟩
   rw [hq2] at hic hgd k5
   dsimp only at hic hgd k5
   have hn:=hgd.n
   have hfe:=hgd.fine
   clear hgd key hi hg
   cases hfe with
   | mk k n s m hk hn0 hs hm =>
   obtain⟨a,b⟩:=q
   have hb:b=false:=hb
   subst hb
   have hb0:(false).toNat=0:=rfl
   dsimp only at hn hqa k6 k7 k3
   unfold di at c1 hic ⊢
   dsimp only at c1 hic ⊢
   repeat' (first|(apply ay;first|(refine aR ?_ ?_<;>intro hG<;>(try cases hG))|refine al ?_|refine ai ?_|refine bj ?_|refine aI ?_|refine aK 0 (c1) ?_|refine aK 0 (hic) ?_|refine dA ?_|refine fj ?_|refine a7 ?_|refine b7 ?_|refine aB ?_|refine dX ?_|refine az ?_)|refine ak ?_|refine ab ?_|refine aa fun C=>?_|refine ac ?_|refine ah ?_|refine aj ?_|refine aq rfl ?_|refine au rfl ?_)
   refine⟨M,([xE k n s m],q2),omq,⟨fun h=>(hn.2.2.1 h).1,fun h=>?_,by dsimp only;omega,by simp at k4 ⊢;omega,k5⟩,?_⟩
   ·have h0:q2.b.toNat=0:=by rw [h];rfl
    have:=hn.2.2.1 h0
    dsimp only
    omega
   dsimp only
   refine (em (i:=27) (j:=2600) rfl rfl rfl (pre:=[.v (.int .i64 k),.v (.int .i64 n),.v (.string s)]) (post:=[]) rfl).trans ?_
   (refine ei (fun j=>if j=9 then 27 else j) _ _ rfl rfl ?_ ?_<;>exact tdy3)
  ·rw [if_neg hl] at k5
   have hw:=nz L q ⟨#[44]⟩
   have cw:=eB hL (r:=q) omq ⟨#[44]⟩
   have hll:0<l.length:=List.length_pos_iff.2 hl
   obtain⟨q1,hq1⟩:∃x,waI L q ⟨#[44]⟩=x:=⟨_,rfl⟩
   rw [hq1] at cw hw k5
   have ht1:TI L q1:=fun h=>by have:=(hw.2 h).2;omega
   have hic:=hi q1 ht1 (fun _=>by omega)
   have hgd:=hg q1 ht1
   obtain⟨⟨e,q2⟩,hq2⟩:∃x,g q1=x:=⟨_,rfl⟩
   rw [hq2] at hic hgd k5
   dsimp only at hic hgd k5
   have hn:=hgd.n
   have hfe:=hgd.fine
   clear hgd key hi hg
   cases hfe with
   | mk k n s m hk hn0 hs hm =>
   obtain⟨a,b⟩:=q
   have hb:b=false:=hb
   subst hb
   have hb0:(false).toNat=0:=rfl
   obtain⟨a1,b1⟩:=q1
   dsimp only at hn hw hqa k6 k7 k3
   unfold di at c1 cw hic ⊢
   dsimp only at c1 cw hic ⊢
   repeat' (first|(apply ay;first|(refine aR ?_ ?_<;>intro hG<;>(try cases hG))|refine al ?_|refine bj ?_|refine aI ?_|refine aK 0 (c1) ?_|refine b7 ?_|refine aB ?_|refine az ?_)|refine ak ?_|refine ab ?_|refine aa fun C=>?_|refine ac ?_)
   refine aq rfl ?_
   repeat' (first|(apply ay;first|refine al ?_|refine dA ?_|refine a7 ?_)|refine ak ?_|refine ab ?_|refine aa fun C=>?_|refine ac ?_|refine ah ?_|refine aj ?_)
   refine ae (by rfl) (fun hC=>?_) fun hC=>by exfalso;simp only [decide_eq_false_iff_not] at hC;omega
   repeat' (first|(apply ay;first|refine al ?_|refine ai ?_|refine d8 0 [21] (cw) ?_ (hl:=bz (by rfl) bW)|refine aK 0 (hic) ?_|refine fj ?_|refine dX ?_)|refine ak ?_|refine ab ?_|refine aa fun C=>?_)
   refine⟨M,(l++[xE k n s m],q2),omq,⟨fun h=>(hn.2.2.1 h).1,fun h=>?_,by dsimp only;omega,by simp at k4 ⊢;omega,k5⟩,?_⟩
   ·have h0:q2.b.toNat=0:=by rw [h];rfl
    have:=hn.2.2.1 h0
    dsimp only
    omega
   dsimp only
   rw [List.length_append,List.length_singleton]
   refine (em (i:=27) (j:=2600) rfl rfl rfl (pre:=owL l++[.v (.int .i64 k),.v (.int .i64 n),.v (.string s)]) (post:=[]) (by rw [List.append_assoc];rfl)).trans ?_
   (refine ei (fun j=>if j=9 then 27 else j) _ _ rfl rfl ?_ ?_<;>(repeat' (first|exact TmOk.nil|exact RwOk.nil|refine TmOk.cons ?_ ?_|refine RwOk.cons ?_ ?_|rfl|exact gf rfl rfl (ww _ _)|exact gf rfl rfl bW|exact gf rfl rfl (rdrU_c _ _)|exact gf rfl rfl rdrU_clo|(refine rnV_id' rfl ?_;exact byc)|(refine cV ?_;first|rfl|omega|(rw [bM omq omq];omega))|(refine bq rfl ?_;exact byc)|exact d5 rfl rfl|(refine rw_mid (by rfl) (by rfl) ?_ ?_<;>exact byc)|(refine rw_rn' rfl rfl ?_;simp;done))))
   exact gf (r:=⟨26,4,l.length+1,false,(owL l++[.v (.int .i64 k),.v (.int .i64 n),.v (.string s)])++[.ow 26 m.length 4 (owL m)]⟩) rfl (by rw [eM,List.append_assoc];rfl) (by first|rfl|(simp [nR,bi,clo,bc,aG,bf,aV,aW];done))
end Go.Proofs.YtomolhbkdhjofaaGreatDoor
