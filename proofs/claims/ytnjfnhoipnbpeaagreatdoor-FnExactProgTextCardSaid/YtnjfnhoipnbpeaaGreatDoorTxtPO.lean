/- Texts joined: plain lemmas. -/
import Derived.Test.YtnjfnhoipnbpeaaGreatDoorTxtPN
namespace Go.Proofs.YtnjfnhoipnbpeaaGreatDoor
open Go.RowKit
theorem join_snoc (a:List (List UInt8))(x sep:List UInt8):Lib.join (a++[x]) sep=(if a=[] then [] else Lib.join a sep++sep)++x:=by
 cases a with
 | nil=>simp [Lib.join_one]
 | cons y r =>
  rw [List.cons_append,Lib.join_cons,Lib.join_cons,if_neg (by simp)]
  simp [Lib.joinTail,List.append_assoc]
theorem zs5 (a b:List UInt8):(ByteArray.mk (a++b).toArray)=⟨a.toArray⟩++⟨b.toArray⟩:=by rw [ByteArray.mk_append_mk]
theorem zt5 (sep:ByteArray):joinB [] sep=ByteArray.empty:=rfl
theorem zz19 (s:ByteArray):(ByteArray.mk s.data.toList.toArray)=s:=by cases s;rfl
theorem zt12 {a:List E}(x:E)(sep:ByteArray):joinB (a++[x]) sep=(if a=[] then ByteArray.empty else joinB a sep++sep)++strB x:=by
 unfold joinB
 rw [List.map_append,List.map_cons,List.map_nil,join_snoc,zs5,zz19]
 congr 1
 by_cases h:a=[]
 ·subst h;rfl
 ·rw [if_neg h,if_neg (by simpa using h),zs5,zz19]
theorem zv8 {l:List E}{k:Nat}{x:E}(hx:l[k]? = some x)(sep:ByteArray):joinB (l.take (k+1)) sep=(if k=0 then ByteArray.empty else joinB (l.take k) sep++sep)++strB x:=by
 obtain⟨hk,-⟩:=List.getElem?_eq_some_iff.1 hx
 rw [List.take_add_one,hx,Option.toList_some,zt12]
 congr 1
 by_cases h:k=0
 ·subst h;rfl
 ·rw [if_neg h,if_neg (fun e=>by have:=congrArg List.length e;rw [List.length_take,List.length_nil] at this;omega)]
set_option maxRecDepth 100000
theorem zq17 {P:Program}{f:FuncId}{ins ins':List AV}{pars rows:List (List AC)}{res:AV}(h:Ctr P f ins pars res rows)(hle:∀(w:World) (St:Nat→Prop) (φ:Nat→Lc) (K:Nat→Prop) (us:List Value),VRL w St φ K ins' us→VRL w St φ K ins us):Ctr P f ins' pars res rows :=
 ⟨h.1,fun w St φ F us hent=>h.2 w St φ F us ⟨hle _ _ _ _ _ hent.args,hent.row,hent.nod,hent.dis,hent.bxF,hent.bxd,hent.stF,hent.stB,hent.gl⟩⟩
def ksE (ks:List Int):List E:=ks.map (E.int .i64)
theorem ks_any (ks:List Int)(k:Int):((ksE ks).any fun e=>k==intE e)=ks.any (fun x=>k==x):=by
 unfold ksE
 rw [List.any_map]
 rfl
theorem ks_enc (ks:List Int):∀e∈ksE ks,e.enc.length=1:=by
 intro e he
 obtain⟨z,_,rfl⟩:=List.mem_map.1 he
 rfl
theorem hasKs_c (ks:List Int)(hk:∀z∈ks,0≤z∧z≤100)(hl:ks.length≤100)(k:Int):Ctr Tryz.prog 156 [.c (.ro ks.length 1 (acL (ksE ks))),.c (.v (.int .i64 k))] [] (.c (.v (.bool (ks.any fun x=>k==x)))) []:=by
 have h:=hasInt_c (l:=ksE ks) (fun e he=>by
  obtain⟨z,hz,rfl⟩:=List.mem_map.1 he
  have h1:=hk z hz
  refine⟨Tryz.underlying3,?_⟩
  have e1:IntKind.i64.min = -9223372036854775808:=rfl
  have e2:IntKind.i64.max=9223372036854775807:=rfl
  simp only [Lit.wf,decide_eq_true_iff,Bool.and_eq_true,e1,e2]
  omega) (ks_enc ks) (by unfold ksE;rw [List.length_map];omega) k
 rw [ks_any] at h
 unfold ksE at h ⊢
 rw [List.length_map] at h
 exact h
theorem nil_ro {w:World}{St:Nat→Prop}{φ:Nat→Lc}{K:Nat→Prop}{k:Nat}{u:Value}(h:VR w St φ K (.c (.v (.slice none 0 0))) u):VR w St φ K (.c (.ro 0 k [])) u:=by
 simp only [VR,CR] at h ⊢
 obtain⟨rfl,-,-⟩:=h
 exact⟨trivial,none,0,rfl,⟨by omega,by decide,fun _=>rfl⟩,by simp,fun h=>by omega⟩
theorem withK5 (g:E→ByteArray)(x:E):withK [5] x.rk (g x)=brk g x:=by
 unfold withK brk
 by_cases h:x.rk=5
 ·rw [if_pos (by simp [h]),if_pos h]
 ·rw [if_neg (by simp [h]),if_neg h]
theorem zr17 (g:E→ByteArray)(x:E):withK [4,5] x.rk (g x)=oneT g x:=by
 unfold withK oneT
 by_cases h:x.rk=4∨x.rk=5
 ·rw [if_pos (by rcases h with h|h<;>simp [h]),if_pos h]
 ·rw [if_neg (by simp only [not_or] at h;simp [h.1,h.2]),if_neg h]
theorem withK0 (k:Int)(t:ByteArray):withK [] k t=t:=rfl
theorem za20 {g:E→ByteArray}{x:E}{B:Nat}(h:(g x).size≤B):(brk g x).size≤B+2:=by
 unfold brk
 split
 ·rw [ByteArray.size_append',ByteArray.size_append']
  have:(ByteArray.mk #[40]).size=1:=rfl
  have:(ByteArray.mk #[41]).size=1:=rfl
  omega
 ·omega
theorem za8 {g:E→ByteArray}{x:E}{B:Nat}(h:(g x).size≤B):(oneT g x).size≤B+2:=by
 unfold oneT
 split
 ·rw [ByteArray.size_append',ByteArray.size_append']
  have:(ByteArray.mk #[40]).size=1:=rfl
  have:(ByteArray.mk #[41]).size=1:=rfl
  omega
 ·omega
theorem zs15 (g:E→ByteArray)(b:ByteArray)(x:E):∀a:List E,tailT g b (a++[x])=tailT g b a++(b++brk g x)
 | []=>by show b++(brk g x++ByteArray.empty)=ByteArray.empty++(b++brk g x);rw [zo17,zr8]
 | y :: r=>by show b++(brk g y++tailT g b (r++[x]))=b++(brk g y++tailT g b r)++(b++brk g x);rw [zs15 g b x r];simp only [zk6]
theorem zq21 (g:E→ByteArray)(b:ByteArray)(a:List E)(x:E):joinT g b (a++[x])=(if a=[] then ByteArray.empty else joinT g b a++b)++brk g x:=by
 cases a with
 | nil=>show brk g x++ByteArray.empty=ByteArray.empty++brk g x;rw [zo17,zr8]
 | cons y r =>
  rw [if_neg (by simp)]
  show brk g y++tailT g b (r++[x])=brk g y++tailT g b r++b++brk g x
  rw [zs15];simp only [zk6]
theorem zp6 (g:E→ByteArray)(b:ByteArray){l:List E}{k:Nat}{x:E}(hx:l[k]? = some x):joinT g b (l.take (k+1))=(if k=0 then ByteArray.empty else joinT g b (l.take k)++b)++brk g x:=by
 obtain⟨hk,-⟩:=List.getElem?_eq_some_iff.1 hx
 rw [List.take_add_one,hx,Option.toList_some,zq21]
 congr 1
 by_cases h:k=0
 ·subst h;rfl
 ·rw [if_neg h,if_neg (fun e=>by have:=congrArg List.length e;rw [List.length_take,List.length_nil] at this;omega)]
theorem zs17 (g:E→ByteArray){l:List E}{k:Nat}{x:E}(hx:l[k]? = some x):joinT g ByteArray.empty (l.take (k+1))=joinT g ByteArray.empty (l.take k)++brk g x:=by
 rw [zp6 g _ hx]
 congr 1
 by_cases h:k=0
 ·subst h;rfl
 ·rw [if_neg h,zo17]
theorem zq6 {g:E→ByteArray}{b:ByteArray}{B:Nat}{l:List E}(h:∀x∈l,(g x).size≤B):∀k,k≤l.length→(joinT g b (l.take k)).size≤k*(B+2+b.size):=by
 intro k
 induction k with
 | zero=>intro _;exact Nat.zero_le _
 | succ k ih =>
  intro hk
  have h1:=ih (by omega)
  obtain⟨x,hx⟩:∃x,l[k]? = some x:=⟨_,List.getElem?_eq_getElem (by omega)⟩
  have h2:=za20 (h x (List.mem_of_getElem? hx))
  rw [zp6 g b hx,ByteArray.size_append',Nat.add_mul,Nat.one_mul]
  split
  ·have:ByteArray.empty.size=0:=rfl
   omega
  ·rw [ByteArray.size_append'];omega
def tlE (g:E→ByteArray)(l:List E):List E:=l.map fun x=>.str (g x)
theorem tlE_len (g:E→ByteArray)(l:List E):(tlE g l).length=l.length:=List.length_map ..
theorem zb20 (g:E→ByteArray){l:List E}{k:Nat}{x:E}(hx:l[k]? = some x):tlE g (l.take (k+1))=tlE g (l.take k)++[.str (g x)]:=by
 unfold tlE
 rw [List.take_add_one,hx,Option.toList_some,List.map_append];rfl
theorem joinB_tl (g:E→ByteArray)(b:ByteArray){l:List E}(h:∀x∈l,x.rk≠5):∀k,k≤l.length→joinB (tlE g (l.take k)) b=joinT g b (l.take k):=by
 intro k
 induction k with
 | zero=>intro _;rfl
 | succ k ih =>
  intro hk
  have h1:=ih (by omega)
  obtain⟨x,hx⟩:∃x,l[k]? = some x:=⟨_,List.getElem?_eq_getElem (by omega)⟩
  have hb:brk g x=g x:=if_neg (h x (List.mem_of_getElem? hx))
  rw [zb20 g hx,zt12,zp6 g b hx,hb,h1]
  congr 1
  by_cases h0:k=0
  ·subst h0;rfl
  ·rw [if_neg h0,if_neg (fun e=>by have:=congrArg List.length e;rw [tlE_len,List.length_take,List.length_nil] at this;omega)]
theorem zt15 {f:Nat}{e:E}(h:partsI (f+1) e≤60):headI e=true∧∀x∈e.rl,partsI f x≤60:=by
 unfold partsI at h
 split at h
 ·rename_i hh;exact⟨hh,(zn8 h).2⟩
 ·omega
theorem zy9 {f:Nat}{e:E}(h:partsI f e≤60):(textS f e).size≤960:=by have:=zr12 f e h;omega
set_option maxHeartbeats 4000000 in
theorem rexText_n (f:Nat):∀(e:E),e.Ty Tryz.prog 140→e.sz≤4194304→partsI f e≤60→∀ks:List Int,(∀z∈ks,0≤z∧z≤100)→ks.length≤100→Ctr Tryz.prog 144 [.ag (acE e),.c (.ro ks.length 1 (acL (ksE ks)))] [] (.c (.v (.string (withK ks e.rk (textS f e))))) []:=by
 induction f with
 | zero=>intro e _ _ h;exact absurd h (by unfold partsI;omega)
 | succ f ih =>
  intro e he hsz hp ks hks hl
  obtain⟨hhd,hkid⟩:=zt15 hp
  have hts:=zy9 hp
  obtain⟨x0,x1,x2A,x2c,l,rfl,gx0,gx1,gx2,-⟩:=zu1 he
  simp only [E.sz,E.szL] at hsz
  have hkid:∀x∈l,partsI f x≤60:=hkid
  have hxs:∀x∈l,(textS f x).size≤960:=fun x hx=>zy9 (hkid x hx)
  have hh2:=hhd
  rw [zb14] at hh2
  simp only [Bool.and_eq_true,Bool.not_eq_true'] at hh2
  obtain⟨hh,hno⟩:=hh2
  show Ctr _ _ _ _ (.c (.v (.string (withK ks x0 _)))) _
  have c1:=hasKs_c ks hks hl x0
  refine ze1 Tryz.func144 rfl rfl ?_
  rcases zb4 hh with ⟨rfl,h1,h2,h3⟩|⟨rfl,h1,h3⟩|⟨rfl|rfl|rfl|rfl,h1,h3⟩|⟨rfl|rfl,h1,h2,h3⟩|⟨rfl|rfl|rfl,h1,y,h3,h4⟩
  case inl =>
   repeat' (first|(apply f_wo;first|(apply f_mv;refine zv (v:=.c _) ?_)|(apply f_as;refine zq (v:=.c _) ?_)|(apply f_fa;refine n_fa ?_)|(apply f_ld;refine zn1 ?_)|(apply f_ca;refine zk1 c1 ?_)|(apply zr1;refine zm ?_)|(apply zd2;refine zl3 ?_)|refine n_bo ?_)|(apply f_w;first|refine zj ?_|refine zb ?_)|refine za fun C=>?_|refine zd ?_|refine ze ?_|refine zg ?_|(refine zi (by rfl) ?_ ?_<;>intro hC<;>(try cases hC)))
   all_goals
    refine zh ?_
    refine ret0 rfl zg1 ⟨?_,rfl⟩
    unfold withK;rw [hC];rfl
  case inr.inl =>
   repeat' (first|(apply f_wo;first|(apply f_mv;refine zv (v:=.c _) ?_)|(apply f_as;refine zq (v:=.c _) ?_)|(apply f_fa;refine n_fa ?_)|(apply f_ld;refine zn1 ?_)|(apply f_ca;refine zk1 c1 ?_)|(apply zr1;refine zm ?_)|(apply zd2;refine zl3 ?_)|refine n_bo ?_)|(apply f_w;first|refine zj ?_|refine zb ?_)|refine za fun C=>?_|refine zd ?_|refine ze ?_|refine zg ?_|(refine zi (by rfl) ?_ ?_<;>intro hC<;>(try cases hC)))
   all_goals
    refine zh ?_
    refine ret0 rfl zg1 ⟨?_,rfl⟩
    unfold withK;rw [hC];rfl
  case inr.inr.inl.inl =>
   repeat' (first|(apply f_wo;first|(apply f_mv;refine zv (v:=.c _) ?_)|(apply f_as;refine zq (v:=.c _) ?_)|(apply f_fa;refine n_fa ?_)|(apply f_ld;refine zn1 ?_)|(apply f_ca;refine zk1 c1 ?_)|(apply zr1;refine zm ?_)|(apply zd2;refine zl3 ?_)|refine n_bo ?_)|(apply f_w;first|refine zj ?_|refine zb ?_)|refine za fun C=>?_|refine zd ?_|refine ze ?_|refine zg ?_|(refine zi (by rfl) ?_ ?_<;>intro hC<;>(try cases hC)))
   all_goals
    refine zh ?_
    refine ret0 rfl zg1 ⟨?_,rfl⟩
    unfold withK;rw [hC];rfl
  case inr.inr.inl.inr.inl =>
   repeat' (first|(apply f_wo;first|(apply f_mv;refine zv (v:=.c _) ?_)|(apply f_as;refine zq (v:=.c _) ?_)|(apply f_fa;refine n_fa ?_)|(apply f_ld;refine zn1 ?_)|(apply f_ca;refine zk1 c1 ?_)|(apply zr1;refine zm ?_)|(apply zd2;refine zl3 ?_)|refine n_bo ?_)|(apply f_w;first|refine zj ?_|refine zb ?_)|refine za fun C=>?_|refine zd ?_|refine ze ?_|refine zg ?_|(refine zi (by rfl) ?_ ?_<;>intro hC<;>(try cases hC)))
   all_goals
    refine zh ?_
    refine ret0 rfl zg1 ⟨?_,rfl⟩
    unfold withK;rw [hC];rfl
  case inr.inr.inl.inr.inr.inl =>
   repeat' (first|(apply f_wo;first|(apply f_mv;refine zv (v:=.c _) ?_)|(apply f_as;refine zq (v:=.c _) ?_)|(apply f_fa;refine n_fa ?_)|(apply f_ld;refine zn1 ?_)|(apply f_ca;refine zk1 c1 ?_)|(apply zr1;refine zm ?_)|(apply zd2;refine zl3 ?_)|refine n_bo ?_)|(apply f_w;first|refine zj ?_|refine zb ?_)|refine za fun C=>?_|refine zd ?_|refine ze ?_|refine zg ?_|(refine zi (by rfl) ?_ ?_<;>intro hC<;>(try cases hC)))
   all_goals
    refine zh ?_
    refine ret0 rfl zg1 ⟨?_,rfl⟩
    unfold withK;rw [hC];rfl
  case inr.inr.inl.inr.inr.inr =>
   repeat' (first|(apply f_wo;first|(apply f_mv;refine zv (v:=.c _) ?_)|(apply f_as;refine zq (v:=.c _) ?_)|(apply f_fa;refine n_fa ?_)|(apply f_ld;refine zn1 ?_)|(apply f_ca;refine zk1 c1 ?_)|(apply zr1;refine zm ?_)|(apply zd2;refine zl3 ?_)|refine n_bo ?_)|(apply f_w;first|refine zj ?_|refine zb ?_)|refine za fun C=>?_|refine zd ?_|refine ze ?_|refine zg ?_|(refine zi (by rfl) ?_ ?_<;>intro hC<;>(try cases hC)))
   all_goals
    refine zh ?_
    refine ret0 rfl zg1 ⟨?_,rfl⟩
    unfold withK;rw [hC];rfl
  case inr.inr.inr.inl.inl =>
   have hte:textS (f+1) (E.agg [E.int .i64 4,E.str x1,E.lst 3 140 x2A x2c l])=joinT (textS f) ByteArray.empty l:=rfl
   rw [hte]
   repeat' (first|(apply f_wo;first|(apply f_as;refine zq (v:=.c _) ?_)|(apply f_fa;refine n_fa ?_)|(apply f_ld;refine zn1 ?_)|(apply zr1;refine zm ?_)|refine n_bo ?_)|(apply f_w;first|refine zj ?_|refine zb ?_)|refine za fun C=>?_|refine zd ?_|refine ze ?_)
   iterate 10
    (first
      | refine zi (by rfl) (fun hC=>Bool.noConfusion (show false=true from hC)) fun hC=>?_
      | refine zi (by rfl) (fun hC=>?_) fun hC=>Bool.noConfusion (show true=false from hC)
      | skip)<;>repeat' (first|(apply f_wo;first|(apply f_mv;refine zv (v:=.c _) ?_)|(apply f_as;refine zq (v:=.c _) ?_)|(apply f_fa;refine n_fa ?_)|(apply f_ld;refine zn1 ?_)|(apply f_bi;refine zy1 ?_)|(apply zr1;refine zm ?_))|(apply f_w;first|refine zj ?_|refine zb ?_)|refine za fun C=>?_|refine zd ?_|refine ze ?_)
   refine zv1 (fun k:Nat=>⟨tmsF [(1,.c (.ro ks.length 1 (acL (ksE ks)))),(2,.c (.pt 2 0)),(5,.c (.v (.string (joinT (textS f) ByteArray.empty (l.take k))))),(28,.c (.ro l.length 3 (acL l))),(29,.c (.v (.int .i64 l.length))),(30,.c (.v (.int .i64 k)))],hpsF [(2,2,⟨140,0,0,true,[.v (.int .i64 4),.v (.string x1),.ro l.length 3 (acL l)]⟩)],0,[2],98⟩)
    (fun N k=>k+N=l.length) l.length 0 (by omega) ?_ ?_
   ·(refine zl1 _ _ rfl rfl ?_ ?_<;>(repeat' (first|exact TmOk.nil|exact RwOk.nil|refine TmOk.cons ?_ ?_|refine RwOk.cons ?_ ?_|rfl|(refine rnV_id' rfl ?_;exact byc)|(refine zp1 ?_;first|rfl|omega|(rw [zw (by omega) (by omega)];omega))|(refine zb1 rfl ?_;exact byc)|exact zc2 rfl rfl|(refine zq1 (by rfl) (by rfl) ?_ ?_<;>exact byc)|(refine rw_rn' rfl rfl ?_;simp;done))))
   rintro N k hN
   repeat' (first|(apply f_wo;(apply zg3;refine zs1 ?_))|(apply f_w;first|refine zj ?_|refine zb ?_)|refine za fun C=>?_|refine zd ?_)
   refine zi (by rfl) (fun hk1=>?_) fun hk1=>?_
   ·have hk':k<l.length:=by simpa using hk1
    obtain⟨x,hx⟩:∃x,l[k]? = some x:=⟨_,List.getElem?_eq_getElem hk'⟩
    have hxm:=List.mem_of_getElem? hx
    have hxt:=gx2.1 x hxm
    have hxz:=E.szL_mem hxm
    have c2:=ih x hxt (by omega) (hkid x hxm) [5] (by simp) (by simp)
    rw [withK5] at c2
    have hgk:=gx2.2
    have hz1:=zq6 (b:=ByteArray.empty) hxs k (by omega)
    have hz2:=za20 (hxs x hxm)
    have e0:ByteArray.empty.size=0:=rfl
    rw [e0] at hz1
    have e:=zs17 (textS f) hx
    obtain⟨y0,y1,y2A,y2c,y2l,rfl,gy0,gy1,gy2,-⟩:=zu1 hxt
    repeat' (first|(apply f_wo;first|(apply f_mv;refine zv (v:=.c _) ?_)|(apply f_as;refine zq (v:=.c _) ?_)|(apply f_ld;first|refine zq2 ?_|refine zs2 ?_)|(apply f_ca;refine zk1 c2 ?_)|(apply f_st;refine n_st ?_)|(apply f_ia;refine n_ix ?_)|(apply zd2;first|refine zj1 ?_|refine zl3 ?_)|refine n_al ?_|refine n_bs ?_)|(apply f_w;first|refine zj ?_|refine zb ?_)|refine za fun C=>?_|refine zd ?_|refine ze ?_|refine zg ?_)
    refine⟨N-1,k+1,by omega,by omega,?_⟩
    rw [e]
    (refine zl1 _ _ rfl rfl ?_ ?_<;>(repeat' (first|exact TmOk.nil|exact RwOk.nil|refine TmOk.cons ?_ ?_|refine RwOk.cons ?_ ?_|rfl|(refine rnV_id' rfl ?_;exact byc)|(refine zp1 ?_;first|rfl|omega|(rw [zw (by omega) (by omega)];omega))|(refine zb1 rfl ?_;exact byc)|exact zc2 rfl rfl|(refine zq1 (by rfl) (by rfl) ?_ ?_<;>exact byc)|(refine rw_rn' rfl rfl ?_;simp;done))))
   ·have hk':¬k<l.length:=by simpa using hk1
    rw [List.take_of_length_le (by omega)]
    have hz1:=zq6 (b:=ByteArray.empty) hxs l.length (by omega)
    rw [List.take_length] at hz1
    have e0:ByteArray.empty.size=0:=rfl
    rw [e0] at hz1
    repeat' (first|(apply f_wo;first|(apply f_mv;refine zv (v:=.c _) ?_)|(apply f_as;refine zq (v:=.c _) ?_)|(apply f_fa;refine n_fa ?_)|(apply f_ld;refine zn1 ?_)|(apply f_ca;refine zk1 c1 ?_)|(apply zd2;refine zl3 ?_))|(apply f_w;first|refine zj ?_|refine zb ?_)|refine za fun C=>?_|refine zd ?_|refine zg ?_|refine zu ?_|(refine zi (by rfl) ?_ ?_<;>intro hC<;>(try cases hC)))
    all_goals
     refine zh ?_
     refine ret0 rfl zg1 ⟨?_,rfl⟩
     unfold withK;rw [hC];rfl
  case inr.inr.inr.inl.inr =>
   have hte:textS (f+1) (E.agg [E.int .i64 5,E.str x1,E.lst 3 140 x2A x2c l])=joinT (textS f) ⟨#[124]⟩ l:=rfl
   rw [hte]
   have hk5:∀x∈l,x.rk≠5:=fun x hx hx5=>by
    have hno':(l.any fun x=>x.rk==5)=false:=by simpa using hno
    rw [List.any_eq_false] at hno'
    exact hno' x hx (by simp [hx5])
   repeat' (first|(apply f_wo;first|(apply f_as;refine zq (v:=.c _) ?_)|(apply f_fa;refine n_fa ?_)|(apply f_ld;refine zn1 ?_)|(apply zr1;refine zm ?_)|refine n_bo ?_)|(apply f_w;first|refine zj ?_|refine zb ?_)|refine za fun C=>?_|refine zd ?_|refine ze ?_)
   iterate 12
    (first
      | refine zi (by rfl) (fun hC=>Bool.noConfusion (show false=true from hC)) fun hC=>?_
      | refine zi (by rfl) (fun hC=>?_) fun hC=>Bool.noConfusion (show true=false from hC)
      | skip)<;>repeat' (first|(apply f_wo;first|(apply f_mv;refine zv (v:=.c _) ?_)|(apply f_as;refine zq (v:=.c _) ?_)|(apply f_fa;refine n_fa ?_)|(apply f_ld;refine zn1 ?_)|(apply f_bi;refine zy1 ?_)|(apply zr1;refine zm ?_))|(apply f_w;first|refine zj ?_|refine zb ?_)|refine za fun C=>?_|refine zd ?_|refine ze ?_)
   refine zv1 (fun k:Nat=>⟨tmsF [(1,.c (.ro ks.length 1 (acL (ksE ks)))),(2,.c (.pt 2 0)),(8,.c (.sl 9 k)),(43,.c (.ro l.length 3 (acL l))),(44,.c (.v (.int .i64 l.length))),(45,.c (.v (.int .i64 k)))],hpsF [(2,2,⟨140,0,0,true,[.v (.int .i64 5),.v (.string x1),.ro l.length 3 (acL l)]⟩),(9,9,⟨9,1,k,false,owL (tlE (textS f) (l.take k))⟩)],0,[2,9],98⟩)
    (fun N k=>k+N=l.length) l.length 0 (by omega) ?_ ?_
   ·refine (g_nilT 9 (t:=8) 9 1 rfl rfl).trans ?_
    (refine zl1 _ _ rfl rfl ?_ ?_<;>(repeat' (first|exact TmOk.nil|exact RwOk.nil|refine TmOk.cons ?_ ?_|refine RwOk.cons ?_ ?_|rfl|(refine rnV_id' rfl ?_;exact byc)|(refine zp1 ?_;first|rfl|omega|(rw [zw (by omega) (by omega)];omega))|(refine zb1 rfl ?_;exact byc)|exact zc2 rfl rfl|(refine zq1 (by rfl) (by rfl) ?_ ?_<;>exact byc)|(refine rw_rn' rfl rfl ?_;simp;done))))
   rintro N k hN
   repeat' (first|(apply f_wo;(apply zg3;refine zs1 ?_))|(apply f_w;first|refine zj ?_|refine zb ?_)|refine za fun C=>?_|refine zd ?_)
   refine zi (by rfl) (fun hk1=>?_) fun hk1=>?_
   ·have hk':k<l.length:=by simpa using hk1
    obtain⟨x,hx⟩:∃x,l[k]? = some x:=⟨_,List.getElem?_eq_getElem hk'⟩
    have hxm:=List.mem_of_getElem? hx
    have hxt:=gx2.1 x hxm
    have hxz:=E.szL_mem hxm
    have c2:=ih x hxt (by omega) (hkid x hxm) [] (by simp) (by simp)
    rw [withK0] at c2
    have c3:=zq17 c2 (ins':=[.ag (acE x),.c (.v (.slice none 0 0))]) fun w St φ K us h=>by
     simp only [VRL] at h ⊢
     obtain⟨u,us',rfl,h1,u2,us2,rfl,h2,h3⟩:=h
     exact⟨u,_,rfl,h1,u2,us2,rfl,nil_ro h2,h3⟩
    have hgk:=gx2.2
    have e:=zb20 (textS f) hx
    obtain⟨y0,y1,y2A,y2c,y2l,rfl,gy0,gy1,gy2,-⟩:=zu1 hxt
    repeat' (first|(apply f_wo;first|(apply f_mv;refine zv (v:=.c _) ?_)|(apply f_as;refine zq (v:=.c _) ?_)|(apply f_ld;first|refine zq2 ?_|refine zs2 ?_)|(apply f_ca;refine zk1 c3 ?_)|(apply f_bi;refine zj17 ?_)|(apply f_st;refine n_st ?_)|(apply f_ia;refine n_ix ?_)|(apply zd2;refine zj1 ?_)|refine n_al ?_|refine n_bs ?_)|(apply f_w;first|refine zj ?_|refine zb ?_)|refine za fun C=>?_|refine zd ?_|refine ze ?_|refine zg ?_)
    refine⟨N-1,k+1,by omega,by omega,?_⟩
    rw [e]
    (refine zi6 (fun j=>if j=9 then 53 else j) _ _ rfl rfl ?_ ?_<;>(repeat' (first|exact TmOk.nil|exact RwOk.nil|refine TmOk.cons ?_ ?_|refine RwOk.cons ?_ ?_|rfl|(refine rnV_id' rfl ?_;exact byc)|(refine zp1 ?_;first|rfl|omega|(rw [zw (by omega) (by omega)];omega))|(refine zb1 rfl ?_;exact byc)|exact zc2 rfl rfl|(refine zq1 (by rfl) (by rfl) ?_ ?_<;>exact byc)|(refine rw_rn' rfl rfl ?_;simp;done))))
    exact zh17 (r:=⟨9,1,k+1,false,owL (tlE (textS f) (l.take k))++[.v (.string (textS f (E.agg [E.int .i64 y0,E.str y1,E.lst 3 140 y2A y2c y2l])))]⟩) rfl (by rw [zh6];rfl) (by first|rfl|(simp [cloV,cloL,clo,zc1,zk,zd1,zo,zt];done))
   ·have hk':¬k<l.length:=by simpa using hk1
    obtain rfl:k=l.length:=by omega
    have hz1:=zq6 (b:=⟨#[124]⟩) hxs l.length (by omega)
    have hj:=joinB_tl (textS f) ⟨#[124]⟩ hk5 l.length (by omega)
    rw [List.take_length] at hz1 hj ⊢
    have e0:(ByteArray.mk #[124]).size=1:=rfl
    rw [e0] at hz1
    have hql:(tlE (textS f) l).length=l.length:=tlE_len _ _
    have c4:=join_c (l:=tlE (textS f) l) (fun e he=>by obtain⟨y,_,rfl⟩:=List.mem_map.1 he;exact⟨_,rfl⟩) ⟨#[124]⟩ (by omega) (by rw [hj];omega)
    rw [hql,hj] at c4
    repeat' (first|(apply f_wo;first|(apply f_mv;refine zv (v:=.c _) ?_)|(apply f_as;refine zq (v:=.c _) ?_)|(apply f_fa;refine n_fa ?_)|(apply f_ld;refine zn1 ?_)|(apply f_ca;first|refine zk1 c4 ?_|refine zk1 c1 ?_)|(apply zd2;refine zl3 ?_))|(apply f_w;first|refine zj ?_|refine zb ?_)|refine za fun C=>?_|refine zd ?_|refine zg ?_|refine zu ?_|(refine zi (by rfl) ?_ ?_<;>intro hC<;>(try cases hC)))
    all_goals
     refine zh ?_
     refine ret0 rfl zg1 ⟨?_,rfl⟩
     unfold withK;rw [hC];rfl
  case inr.inr.inr.inr.inl =>
   subst h3
   have hym:y∈[y]:=List.mem_singleton.2 rfl
   have hyt:=gx2.1 y hym
   have hyz:=E.szL_mem hym
   have hte:textS (f+1) (E.agg [E.int .i64 6,E.str x1,E.lst 3 140 x2A x2c [y]])=oneT (textS f) y++⟨#[42]⟩:=rfl
   rw [hte]
   have c2:=ih y hyt (by omega) (hkid y hym) [4,5] (by simp) (by simp)
   rw [zr17] at c2
   have hgk:=gx2.2
   have hz2:=za8 (hxs y hym)
   have hy0:[y][0]? = some y:=rfl
   obtain⟨y0,y1,y2A,y2c,y2l,rfl,gy0,gy1,gy2,-⟩:=zu1 hyt
   repeat' (first|(apply f_wo;first|(apply f_mv;refine zv (v:=.c _) ?_)|(apply f_as;refine zq (v:=.c _) ?_)|(apply f_fa;refine n_fa ?_)|(apply f_ld;first|refine zn1 ?_|refine zq2 ?_)|(apply f_ca;first|refine zk1 c2 ?_|refine zk1 c1 ?_)|(apply f_ia;refine n_ix ?_)|(apply zr1;refine zm ?_)|(apply zd2;refine zl3 ?_)|refine n_bo ?_|refine n_bs ?_)|(apply f_w;first|refine zj ?_|refine zb ?_)|refine za fun C=>?_|refine zd ?_|refine ze ?_|refine zg ?_|(refine zi (by rfl) ?_ ?_<;>intro hC<;>(try cases hC)))
   all_goals
    refine zh ?_
    refine ret0 rfl zg1 ⟨?_,rfl⟩
    unfold withK;rw [hC];rfl
  case inr.inr.inr.inr.inr.inl =>
   subst h3
   have hym:y∈[y]:=List.mem_singleton.2 rfl
   have hyt:=gx2.1 y hym
   have hyz:=E.szL_mem hym
   have hte:textS (f+1) (E.agg [E.int .i64 7,E.str x1,E.lst 3 140 x2A x2c [y]])=oneT (textS f) y++⟨#[43]⟩:=rfl
   rw [hte]
   have c2:=ih y hyt (by omega) (hkid y hym) [4,5] (by simp) (by simp)
   rw [zr17] at c2
   have hgk:=gx2.2
   have hz2:=za8 (hxs y hym)
   have hy0:[y][0]? = some y:=rfl
   obtain⟨y0,y1,y2A,y2c,y2l,rfl,gy0,gy1,gy2,-⟩:=zu1 hyt
   repeat' (first|(apply f_wo;first|(apply f_mv;refine zv (v:=.c _) ?_)|(apply f_as;refine zq (v:=.c _) ?_)|(apply f_fa;refine n_fa ?_)|(apply f_ld;first|refine zn1 ?_|refine zq2 ?_)|(apply f_ca;first|refine zk1 c2 ?_|refine zk1 c1 ?_)|(apply f_ia;refine n_ix ?_)|(apply zr1;refine zm ?_)|(apply zd2;refine zl3 ?_)|refine n_bo ?_|refine n_bs ?_)|(apply f_w;first|refine zj ?_|refine zb ?_)|refine za fun C=>?_|refine zd ?_|refine ze ?_|refine zg ?_|(refine zi (by rfl) ?_ ?_<;>intro hC<;>(try cases hC)))
   all_goals
    refine zh ?_
    refine ret0 rfl zg1 ⟨?_,rfl⟩
    unfold withK;rw [hC];rfl
  case inr.inr.inr.inr.inr.inr =>
   subst h3
   have hym:y∈[y]:=List.mem_singleton.2 rfl
   have hyt:=gx2.1 y hym
   have hyz:=E.szL_mem hym
   have hte:textS (f+1) (E.agg [E.int .i64 8,E.str x1,E.lst 3 140 x2A x2c [y]])=oneT (textS f) y++⟨#[63]⟩:=rfl
   rw [hte]
   have c2:=ih y hyt (by omega) (hkid y hym) [4,5] (by simp) (by simp)
   rw [zr17] at c2
   have hgk:=gx2.2
   have hz2:=za8 (hxs y hym)
   have hy0:[y][0]? = some y:=rfl
   obtain⟨y0,y1,y2A,y2c,y2l,rfl,gy0,gy1,gy2,-⟩:=zu1 hyt
   repeat' (first|(apply f_wo;first|(apply f_mv;refine zv (v:=.c _) ?_)|(apply f_as;refine zq (v:=.c _) ?_)|(apply f_fa;refine n_fa ?_)|(apply f_ld;first|refine zn1 ?_|refine zq2 ?_)|(apply f_ca;first|refine zk1 c2 ?_|refine zk1 c1 ?_)|(apply f_ia;refine n_ix ?_)|(apply zr1;refine zm ?_)|(apply zd2;refine zl3 ?_)|refine n_bo ?_|refine n_bs ?_)|(apply f_w;first|refine zj ?_|refine zb ?_)|refine za fun C=>?_|refine zd ?_|refine ze ?_|refine zg ?_|(refine zi (by rfl) ?_ ?_<;>intro hC<;>(try cases hC)))
   all_goals
    refine zh ?_
    refine ret0 rfl zg1 ⟨?_,rfl⟩
    unfold withK;rw [hC];rfl
theorem zc14 {e:E}(he:e.Ty Tryz.prog 140)(hsz:e.sz≤4194304):Ctr Tryz.prog 134 [.ag (acE e)] [] (.c (.v (.string (rexT e)))) []:=by
 have c1:=zb11 he hsz
 cases hr:rexOkI e with
 | false =>
  have hres:rexT e=ByteArray.empty:=by unfold rexT;rw [hr];rfl
  rw [hres]
  rw [hr] at c1
  clear hres hr
  obtain⟨x0,x1,x2A,x2c,l,rfl,gx0,gx1,gx2,-⟩:=zu1 he
  refine ze1 Tryz.func134 rfl rfl ?_
  repeat' (first|(apply f_wo;first|(apply f_as;refine zq (v:=.c _) ?_)|(apply f_ld;refine zs2 ?_)|(apply f_ca;refine zk1 c1 ?_)|(apply f_no;refine zu2 ?_)|refine n_bo ?_)|(apply f_w;first|refine zj ?_|refine zb ?_)|refine za fun C=>?_|refine zd ?_|(refine zi (by rfl) ?_ ?_<;>intro hC<;>(try cases hC)))
  refine zh ?_
  exact ret0 rfl zg1 ⟨rfl,rfl⟩
 | true =>
  have hres:rexT e=textS 6 e:=by unfold rexT;rw [hr];rfl
  rw [hres]
  have hp:partsI 6 e≤60:=by unfold rexOkI at hr;simpa using hr
  have c2:=rexText_n 6 e he hsz hp [] (by simp) (by simp)
  rw [withK0] at c2
  have c3:=zq17 c2 (ins':=[.ag (acE e),.c (.v (.slice none 0 0))]) fun w St φ K us h=>by
   simp only [VRL] at h ⊢
   obtain⟨u,us',rfl,h1,u2,us2,rfl,h2,h3⟩:=h
   exact⟨u,_,rfl,h1,u2,us2,rfl,nil_ro h2,h3⟩
  rw [hr] at c1
  clear hres hr c2 hp
  obtain⟨x0,x1,x2A,x2c,l,rfl,gx0,gx1,gx2,-⟩:=zu1 he
  refine ze1 Tryz.func134 rfl rfl ?_
  repeat' (first|(apply f_wo;first|(apply f_as;refine zq (v:=.c _) ?_)|(apply f_ld;refine zs2 ?_)|(apply f_ca;first|refine zk1 c1 ?_|refine zk1 c3 ?_)|(apply f_no;refine zu2 ?_)|refine n_bo ?_)|(apply f_w;first|refine zj ?_|refine zb ?_)|refine za fun C=>?_|refine zd ?_|refine zg ?_|(refine zi (by rfl) ?_ ?_<;>intro hC<;>(try cases hC)))
  refine zh ?_
  exact ret0 rfl zg1 ⟨rfl,rfl⟩
end Go.Proofs.YtnjfnhoipnbpeaaGreatDoor
