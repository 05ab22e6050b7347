/- T -/
import Derived.Test.YtomolhbkdhjofaaGreatDoorParXAH
set_option maxHeartbeats 0
set_option maxRecDepth 100000
namespace Go.Proofs.YtomolhbkdhjofaaGreatDoor
open Go.RowKit Go.Proofs.Tryz
section
variable {ops:Array Oper}{Q:Exit→Act→World→Prop}{C:Ctx}{H:List (Nat×Oper×Inf)}{i:Nat}{r:List Nat}{dr:Bool}
variable {tm:Nat→AV}{hp:Nat→Option Row}{gn L:Nat}{us:List Nat}
theorem o_cdz {ty:TypeId}{gd:Option (Nat×Bool)}{cas:Array Operand}{cts:Array TypeId}{ps:String}{af:Array Edge}{t:Nat}{fv:Operand}{f:FuncId}{caps:List AC}{args ins:List AV}{par:List AC}{rows:List (List AC)}{res:AV}{nv:AV}{nr:List (Nat×Row)}(lr:Nat)(Z:List Nat)(hctr:Ctr prog f ins [par] res rows)
 (h:Walk prog ops Q C dr (bE dr (i,(⟨some t,.call ⟨.value fv,cas,cts⟩,ty,ps,af,gd⟩:Oper),cV ⟨tm,hp,gn,us,L⟩ (args.flatMap snV) [lr] Z (100*(t+1)) res rows) H) r ⟨upd tm t nv,fL hp (eU hp [lr] rows++(Z.map fun z=>(z,none))++nr.map (fun p=>(p.1,some p.2))),gn,nr.map (·.1)++us,L⟩)
 (ht:Nat.blt t L=true:=by exact rfl) (hg:gw ops tm (⟨some t,.call ⟨.value fv,cas,cts⟩,ty,ps,af,gd⟩:Oper)=some true:=by exact rfl) (hfv:AS.ev ⟨tm,hp,gn,us,L⟩ fv=.c (.fn f caps):=by exact rfl) (hargs:bz ⟨tm,hp,gn,us,L⟩ ⟨.value fv,cas,cts⟩ caps=args:=by exact rfl) (hcv:args.map (cvV hp [lr])=ins:=by exact ya) (hl:iA hp [lr]=some [par]:=by exact cH (by rfl) (by first|rfl|(simp [oO,bl,clo,bi,aL,bj,a8,aX];done)))
 (hRD:((args.flatMap snV).all fun z=>![lr].contains z)=true:=by exact rfl) (hZD:(Z.all fun z=>![lr].contains z)=true:=by exact rfl) (hmm:((args.flatMap snV).all fun z=>Z.contains z)=true:=by exact rfl) (hopn:opV (100*(t+1)) res=(nv,nr):=by exact rfl) (hf:(nr.all fun p=>Nat.ble gn p.1&&!us.contains p.1)=true:=by exact rfl)
 (hc:chk dr ops i (⟨some t,.call ⟨.value fv,cas,cts⟩,ty,ps,af,gd⟩:Oper) (cV ⟨tm,hp,gn,us,L⟩ (args.flatMap snV) [lr] Z (100*(t+1)) res rows) H=true:=by first|(with_reducible exact bp)|kernel_rfl):WalkO prog ops Q C dr H i (⟨some t,.call ⟨.value fv,cas,cts⟩,ty,ps,af,gd⟩:Oper) r ⟨tm,hp,gn,us,L⟩ :=
 ⟨fun hop=>vk (100*(t+1)) [lr] Z hop rfl rfl rfl ht hg hfv hargs hl (by rw [hcv];exact hctr) hRD hZD (.inr hmm) hopn hf hc h⟩
theorem iw {ty:TypeId}{gd:Option (Nat×Bool)}{cas:Array Operand}{cts:Array TypeId}{ps:String}{af:Array Edge}{t:Nat}{fv:Operand}{f:FuncId}{caps:List AC}{args ins:List AV}{par:List AC}{rows:List (List AC)}{res:AV}{nv:AV}{nr:List (Nat×Row)}(lr:Nat)(Z:List Nat)(hctr:Ctr prog f ins [par] res rows)
 (h:Walk prog ops Q C false [] r ⟨upd tm t nv,fL hp (eU hp [lr] rows++(Z.map fun z=>(z,none))++nr.map (fun p=>(p.1,some p.2))),gn,nr.map (·.1)++us,L⟩)
 (ht:Nat.blt t L=true:=by exact rfl) (hg:gw ops tm (⟨some t,.call ⟨.value fv,cas,cts⟩,ty,ps,af,gd⟩:Oper)=some true:=by exact rfl) (hfv:AS.ev ⟨tm,hp,gn,us,L⟩ fv=.c (.fn f caps):=by exact rfl) (hargs:bz ⟨tm,hp,gn,us,L⟩ ⟨.value fv,cas,cts⟩ caps=args:=by exact rfl) (hcv:args.map (cvV hp [lr])=ins:=by exact ya) (hl:iA hp [lr]=some [par]:=by exact cH (by rfl) (by first|rfl|(simp [oO,bl,clo,bi,aL,bj,a8,aX];done)))
 (hRD:((args.flatMap snV).all fun z=>![lr].contains z)=true:=by exact rfl) (hZD:(Z.all fun z=>![lr].contains z)=true:=by exact rfl) (hmm:((args.flatMap snV).all fun z=>Z.contains z)=true:=by exact rfl) (hopn:opV (100*(t+1)) res=(nv,nr):=by exact rfl) (hf:(nr.all fun p=>Nat.ble gn p.1&&!us.contains p.1)=true:=by exact rfl):WalkO prog ops Q C false [] i (⟨some t,.call ⟨.value fv,cas,cts⟩,ty,ps,af,gd⟩:Oper) r ⟨tm,hp,gn,us,L⟩ :=
 o_cdz (dr:=false) (H:=[]) (lr:=lr) (Z:=Z) (hctr:=hctr) (h:=h) (ht:=ht) (hg:=hg) (hfv:=hfv) (hargs:=hargs) (hcv:=hcv) (hl:=hl) (hRD:=hRD) (hZD:=hZD) (hmm:=hmm) (hopn:=hopn) (hf:=hf)
end
def Byt (l:List E):Prop:=∀e∈l,∃x:Nat,x<256∧e=.int .u8 (x:Int)
theorem Byt.enc {l:List E}(h:Byt l):∀e∈l,e.enc.length=1:=fun e he=>by obtain⟨x,-,rfl⟩:=h e he;rfl
theorem clsR {p:Prop}(h:p:=by first|exact bX|exact sG _ _|exact dX|exact pG _ _):p:=h
theorem rtq5 {p:Prop}(h:p:=by refine am ?_;refine d8 rfl (bh (aS rfl (aS rfl (aS rfl aV)))) rfl clsR rfl ⟨?_,?_⟩<;>rfl):p:=h
def dz (L:List T3)(r:RI):List AC:=[.ro (L.map T3.E).length 3 (acL (L.map T3.E)),.v (.int .i64 (r.a:Int)),.v (.bool r.b)]
theorem bX {L:List T3}{x y:Value}:bl [.ro (L.map T3.E).length 3 (acL (L.map T3.E)),.v x,.v y]=true:=by simp [bl,clo,aL]
theorem sG (L:List T3)(r:RI):bl (dz L r)=true:=bX
def cO (L:List T3)(r:RS):List AC:=[.ro (L.map T3.E).length 3 (acL (L.map T3.E)),.v (.int .i64 (r.a:Int)),.v (.bool r.b),.v (.int .i64 (r.d:Int))]
theorem dX {L:List T3}{x y z:Value}:bl [.ro (L.map T3.E).length 3 (acL (L.map T3.E)),.v x,.v y,.v z]=true:=by simp [bl,clo,aL]
theorem pG (L:List T3)(r:RS):bl (cO L r)=true:=dX
theorem t3_at {L:List T3}{a:Nat}(h:a<L.length):(L.map T3.E)[a]? = some (.agg [.int .i64 (tAt L a).1,.int .i64 (tAt L a).2.1,.str (tAt L a).2.2]):=by
 rw [List.getElem?_map,List.getElem?_eq_getElem h]
 unfold tAt
 rw [List.getD_eq_getElem?_getD,List.getElem?_eq_getElem h,Option.getD_some]
 rfl
theorem t3_no {L:List T3}{a:Nat}(h:¬a<L.length):tAt L a=(0,0,ByteArray.empty):=by
 unfold tAt
 rw [List.getD_eq_getElem?_getD,List.getElem?_eq_none omq];rfl
theorem tks_enc' {l:List T3}:∀e∈l.map T3.E,e.enc.length=3:=fun e he=>by obtain⟨t,-,rfl⟩:=List.mem_map.1 he;rfl
theorem gY {L:List T3}(hL:L.length≤2000){r:RI}(ha:r.a≤100000){j:Nat}(hj:j≤1){z:Int}(hz:z=(j:Int)):Ctr prog 48 [.c (.pt 0 0),.c (.v (.int .i64 z))] [dz L r] (.ag [.v (.int .i64 (tAt L (r.a+j)).1),.v (.int .i64 (tAt L (r.a+j)).2.1),.v (.string (tAt L (r.a+j)).2.2)]) [dz L r]:=by
 obtain⟨a,b⟩:=r
 dsimp only at ha ⊢
 have hk:=tks_enc' (l:=L)
 have hlen:L.length=(L.map T3.E).length:=(List.length_map ..).symm
 refine ay func48 rfl rfl ?_
 unfold dz
 dsimp only
 by_cases h:a+j<L.length
 ·have hx:=t3_at h
  have hi:(a:Int)+z=((a+j:Nat):Int):=by omega
  repeat' (first|(apply av;refine bI ?_)|refine aj ?_|refine ab ?_|(apply dc;first|(apply dx;refine aH ?_)|refine d5 ?_|refine cg ?_|refine ez ?_|(apply fD;first|refine cP ?_|refine aH ?_)|refine aH ?_)|refine aj ?_|refine ab ?_|refine aa fun C=>?_|refine au (by kernel_rfl) (by kernel_rfl) fun C=>?_|refine ac ?_)
  refine ae (by rfl) (fun hC=>by exfalso;simp only [decide_eq_true_iff] at hC;omega) fun hC=>?_
  repeat' (first|(apply dc;first|(apply dx;refine aH ?_)|refine d5 ?_|refine cg ?_|refine ew ?_|refine mK ?_|refine mo ?_|refine cP ?_|refine aH ?_)|refine aj ?_|refine ab ?_|refine au (by kernel_rfl) (by kernel_rfl) fun C=>?_|refine ac ?_|refine al ?_)
  exact rtq5
 ·rw [t3_no h]
  repeat' (first|(apply av;refine bI ?_)|refine aj ?_|refine ab ?_|(apply dc;first|(apply dx;refine aH ?_)|refine d5 ?_|refine cg ?_|refine ez ?_|(apply fD;first|refine cP ?_|refine aH ?_)|refine aH ?_)|refine aj ?_|refine ab ?_|refine aa fun C=>?_|refine au (by kernel_rfl) (by kernel_rfl) fun C=>?_|refine ac ?_)
  refine ae (by rfl) (fun hC=>?_) fun hC=>by exfalso;simp only [decide_eq_false_iff_not] at hC;omega
  repeat' (first|(apply av;first|refine bg ?_|refine az ?_)|refine aj ?_|refine ab ?_|refine aa fun C=>?_|refine ac ?_)
  exact rtq5
theorem mz (s t:ByteArray):(s.toList==t.toList)=decide (s=t):=by
 rw [Bool.eq_iff_iff]
 simp only [beq_iff_eq,decide_eq_true_iff]
 exact⟨fun h=>by cases s;cases t;simpa [ByteArray.toList_eq] using h,fun h=>by rw [h]⟩
theorem pH {L:List T3}(hL:L.length≤2000){r:RI}(ha:r.a≤100000){j:Nat}(hj:j≤1){z:Int}(hz:z=(j:Int))(s:ByteArray):Ctr prog 50 [.c (.pt 0 0),.c (.v (.int .i64 z)),.c (.v (.string s))] [dz L r] (.c (.v (.bool (isI L r j s)))) [dz L r]:=by
 have c1:=gY hL ha hj hz
 refine ay func50 rfl rfl ?_
 unfold isI
 generalize tAt L (r.a+j)=t at *
 obtain⟨k,n,u⟩:=t
 unfold dz at *
 dsimp only at c1 ⊢
 by_cases h5:k=5
 ·subst h5
  repeat' (first|(apply av;first|refine bC ?_|(refine aK ?_ ?_<;>intro hG<;>(try cases hG))|refine ak ?_|refine ai ?_|refine ba ?_|refine aI ?_|refine aF 0 (c1) ?_|refine bg ?_|refine ao ?_|refine aC ?_|refine aA ?_|refine bI ?_)|refine aj ?_|refine ab ?_|refine aa fun C=>?_|refine ac ?_)
  all_goals
   refine am ?_;refine d8 rfl aJ rfl clsR rfl ⟨?_,?_⟩
   ·first|(simp [mz];done)|(simp_all [mz];done)
   ·rfl
 ·by_cases h2:k=2
  ·subst h2
   repeat' (first|(apply av;first|(refine aK ?_ ?_<;>intro hG<;>(try cases hG))|refine ak ?_|refine ai ?_|refine ba ?_|refine aI ?_|refine aF 0 (c1) ?_|refine bg ?_|refine ao ?_|refine aC ?_|refine aA ?_|refine bI ?_)|refine aj ?_|refine ab ?_|refine aa fun C=>?_|refine ac ?_)
   all_goals
    refine am ?_;refine d8 rfl aJ rfl clsR rfl ⟨?_,?_⟩
    ·first|(simp [mz];done)|(simp_all [mz];done)
    ·rfl
  ·repeat' (first|(apply av;first|refine bC ?_|(refine aK ?_ ?_<;>intro hG<;>(try cases hG))|refine ak ?_|refine ai ?_|refine ba ?_|refine aI ?_|refine aF 0 (c1) ?_|refine bg ?_|refine ao ?_|refine aC ?_|refine aA ?_|refine bI ?_)|refine aj ?_|refine ab ?_|refine aa fun C=>?_|refine ac ?_)
   all_goals first
    | (exfalso;simp_all;done)
    | (refine am ?_;refine d8 rfl aJ rfl clsR rfl ⟨?_,?_⟩
       ·first|(simp [mz];done)|(simp_all [mz];done)
       ·rfl)
section
variable {L:List T3}
theorem oe {r:RS}{k:Int}{s:ByteArray}(h:fW L r k s=true):r.b.toNat=0∧r.a<L.length∧(tAt L r.a).1=k∧(tAt L r.a).2.2=s:=by
 unfold fW at h
 simp only [Bool.and_eq_true,Bool.not_eq_true',decide_eq_true_iff] at h
 exact⟨by rw [h.1];rfl,h.2⟩
theorem sH {r:RS}(s:ByteArray)(ha:r.a≤L.length):(mkS L r s).a+(mkS L r s).b.toNat=r.a+1∧r.b.toNat≤(mkS L r s).b.toNat∧(mkS L r s).a≤L.length∧(mkS L r s).d=r.d:=by
 unfold mkS
 have hb:=dJ r.b
 by_cases h:fW L r 5 s=true
 ·rw [if_pos h]
  obtain⟨h1,h2,-⟩:=oe h
  have e1:r.up.a=r.a+1:=rfl
  have e2:r.up.b.toNat=r.b.toNat:=rfl
  exact⟨omq,omq,omq,rfl⟩
 ·rw [if_neg h]
  have e1:r.bd.a=r.a:=rfl
  have e2:r.bd.b.toNat=1:=rfl
  exact⟨omq,omq,omq,rfl⟩
theorem is_f (L:List T3)(r:RS)(k:Int)(s:ByteArray):((isS L r k s).1=true→r.b.toNat=0∧(isS L r k s).2.b.toNat=0∧(isS L r k s).2.a=r.a+1∧(isS L r k s).2.a≤L.length)∧((isS L r k s).1=false→(isS L r k s).2=r)∧(isS L r k s).2.d=r.d:=by
 unfold isS
 by_cases h:fW L r k s=true
 ·rw [if_pos h]
  obtain⟨h1,h2,-⟩:=oe h
  have e1:r.up.a=r.a+1:=rfl
  have e2:r.up.b.toNat=r.b.toNat:=rfl
  refine⟨fun _=>by dsimp only;omega,by simp,rfl⟩
 ·rw [if_neg h]
  exact⟨by simp,fun _=>rfl,rfl⟩
theorem gF (hL:okL L){r:RS}(k:Int)(ha:r.a≤L.length):(bH L r k).2.a+(bH L r k).2.b.toNat=r.a+1∧r.b.toNat≤(bH L r k).2.b.toNat∧(bH L r k).2.a≤L.length∧(bH L r k).2.d=r.d∧(bH L r k).1.2.2.size≤200∧0≤(bH L r k).1.2.1∧(bH L r k).1.2.1≤2147483647:=by
 unfold bH
 have hbb:=dJ r.b
 by_cases h:r.b=true∨¬r.a<L.length∨(tAt L r.a).1≠k
 ·rw [if_pos h]
  have e1:r.bd.a=r.a:=rfl
  have e2:r.bd.b.toNat=1:=rfl
  have e3:ByteArray.empty.size=0:=rfl
  dsimp only
  exact⟨omq,omq,omq,rfl,omq,omq,omq⟩
 ·rw [if_neg h]
  have hz:=sF hL r.a
  have hb:r.b.toNat=0:=by
   have:r.b=false:=by cases hb:r.b with
    | false=>rfl
    | true=>exact absurd (.inl hb) h
   rw [this];rfl
  have ha:r.a<L.length:=Classical.byContradiction fun q=>h (.inr (.inl q))
  have e1:r.up.a=r.a+1:=rfl
  have e2:r.up.b.toNat=r.b.toNat:=rfl
  dsimp only
  exact⟨omq,omq,omq,rfl,hz.1,hz.2.1,hz.2.2.1⟩
theorem zw7 (hL:okL L){r:RS}(ha:r.a≤L.length):r.a≤(fX L r).2.a∧r.a+1≤(fX L r).2.a+(fX L r).2.b.toNat∧r.b.toNat≤(fX L r).2.b.toNat∧(fX L r).2.a≤L.length∧(fX L r).2.a≤r.a+1∧(fX L r).2.d=r.d∧(fX L r).1.size≤200:=by
 have h:=gF hL 2 ha
 unfold fX
 dsimp only
 have hb:=dJ (bH L r 2).2.b
 split
 ·exact⟨omq,omq,omq,omq,omq,h.2.2.2.1,h.2.2.2.2.1⟩
 ·have e1:(bH L r 2).2.bd.a=(bH L r 2).2.a:=rfl
  have e2:(bH L r 2).2.bd.b.toNat=1:=rfl
  exact⟨omq,omq,omq,omq,omq,h.2.2.2.1,h.2.2.2.2.1⟩
structure PS' (L:List T3)(f:Nat)(r:RS)(e:E)(r':RS):Prop where
 fine:FnX e
 n:r.a≤r'.a∧r'.a≤L.length∧r.b.toNat≤r'.b.toNat∧(r'.b.toNat=0→r'.d=r.d∧e.sz+1+250*r.a≤250*r'.a)∧r.d≤r'.d∧r'.d≤r.d+f+1∧(r.b.toNat=1→r'.d≤r.d+1)
def GS (L:List T3)(f:Nat)(g:RS→E×RS):Prop:=∀r:RS,r.a≤L.length→PS' L f r (g r).1 (g r).2
variable {g:RS→E×RS}{f:Nat}
theorem zk2 (hg:GS L f g):∀(n:Nat) (l:List E) (r:RS),r.a≤L.length→(∀y∈l,FnX y)→(∀y∈(gJ L g n l r).1,FnX y)∧(r.a≤(gJ L g n l r).2.a∧(gJ L g n l r).2.a≤L.length∧((gJ L g n l r).2.b.toNat=0→r.b.toNat=0∧(gJ L g n l r).2.d=r.d∧E.szL (gJ L g n l r).1+(gJ L g n l r).1.length≤E.szL l+l.length+250*((gJ L g n l r).2.a-r.a))∧r.d≤(gJ L g n l r).2.d∧(gJ L g n l r).2.d≤r.d+f+1)
 | 0,l,r,ha,hl=>⟨hl,by
  have e1:(gJ L g 0 l r).2.a=r.a:=rfl
  have e2:(gJ L g 0 l r).2.b.toNat=1:=rfl
  have e3:(gJ L g 0 l r).2.d=r.d:=rfl
  omega⟩
 | n+1,l,r,ha,hl=>by
  unfold gJ
  by_cases hb:r.b=true
  ·rw [if_pos hb]
   have e2:r.b.toNat=1:=by rw [hb];rfl
   exact⟨hl,by dsimp only;omega⟩
  ·rw [if_neg hb]
   have hb0:r.b.toNat=0:=by
    have:r.b=false:=by cases h:r.b with
     | false=>rfl
     | true=>exact absurd h hb
    rw [this];rfl
   have hG:=hg r ha
   have h2:=hG.n
   have hi:=is_f L (g r).2 5 ⟨#[44]⟩
   by_cases hc:(isS L (g r).2 5 ⟨#[44]⟩).1=true
   ·rw [if_pos hc]
    have h3:=hi.1 hc
    have h4:=hi.2.2
    have ih:=zk2 hg n (l++[(g r).1]) (isS L (g r).2 5 ⟨#[44]⟩).2 omq (fun y hy=>by
     rcases List.mem_append.1 hy with hy|hy
     ·exact hl y hy
     ·obtain rfl:=List.mem_singleton.1 hy;exact hG.fine)
    refine⟨ih.1,?_⟩
    have h1:=ih.2
    rw [fP,List.length_append,List.length_singleton] at h1
    have:=dJ (g r).2.b
    omega
   ·rw [if_neg hc]
    refine⟨fun y hy=>?_,?_⟩
    ·rcases List.mem_append.1 hy with hy|hy
     ·exact hl y hy
     ·obtain rfl:=List.mem_singleton.1 hy;exact hG.fine
    ·dsimp only
     rw [fP,List.length_append,List.length_singleton]
     omega
theorem or_f (r:RS)(c:Bool):(r.or c).a=r.a∧(r.or c).d=r.d∧((r.or c).b.toNat=0→r.b.toNat=0):=⟨rfl,rfl,fun h=>by
 unfold RS.or at h
 cases hb:r.b with
 | false=>rfl
 | true=>rw [hb] at h;simp at h⟩
theorem zu5 (hg:GS L f g)(m:Int){r:RS}(ha:r.a≤L.length):(∀y∈(cv L g m r).1,FnX y)∧(r.a≤(cv L g m r).2.a∧(cv L g m r).2.a≤L.length∧((cv L g m r).2.b.toNat=0→r.b.toNat=0∧(cv L g m r).2.d=r.d∧E.szL (cv L g m r).1+(cv L g m r).1.length≤250*((cv L g m r).2.a-r.a))∧r.d≤(cv L g m r).2.d∧(cv L g m r).2.d≤r.d+f+1):=by
 unfold cv
 have h1:=sH ⟨#[40]⟩ ha
 generalize mkS L r ⟨#[40]⟩=r1 at *
 have hb1:=dJ r1.b
 have h2:=is_f L r1 5 ⟨#[41]⟩
 by_cases hc:(isS L r1 5 ⟨#[41]⟩).1=true
 ·rw [if_pos hc]
  have h3:=h2.1 hc
  have h4:=h2.2.2
  have h5:=or_f (isS L r1 5 ⟨#[41]⟩).2 (decide (0<m))
  refine⟨fun _ h=>absurd h List.not_mem_nil,?_⟩
  dsimp only
  simp only [E.szL,List.length_nil]
  omega
 ·rw [if_neg hc]
  have hl:=zk2 hg (L.length+1) [] r1 omq (fun _ h=>absurd h List.not_mem_nil)
  have h3:=sH ⟨#[41]⟩ hl.2.2.1
  have h5:=or_f (mkS L (gJ L g (L.length+1) [] r1).2 ⟨#[41]⟩) (decide (0≤m)&&decide (((gJ L g (L.length+1) [] r1).1.length:Int)≠m))
  refine⟨hl.1,?_⟩
  have h6:=hl.2
  simp only [E.szL,List.length_nil] at h6
  have:=dJ (gJ L g (L.length+1) [] r1).2.b
  have:=dJ (mkS L (gJ L g (L.length+1) [] r1).2 ⟨#[41]⟩).b
  dsimp only
  omega
theorem in_PS (hL:okL L)(hg:GS L f g){r:RS}(ha:r.a≤L.length)(h0:r.b.toNat=0):FnX (inS L g r).1∧(r.a≤(inS L g r).2.a∧(inS L g r).2.a≤L.length∧((inS L g r).2.b.toNat=0→(inS L g r).2.d=r.d∧(inS L g r).1.sz+1≤250*((inS L g r).2.a-r.a+1))∧r.d≤(inS L g r).2.d∧(inS L g r).2.d≤r.d+f+2):=by
 unfold inS
 have g1:=hg r ha
 have n1:=g1.n
 generalize g r=x1 at *
 have bx1:=dJ x1.2.b
 have hu:x1.2.up.a=x1.2.a+1∧x1.2.up.b.toNat=x1.2.b.toNat∧x1.2.up.d=x1.2.d:=⟨rfl,rfl,rfl⟩
 have i1:=is_f L x1.2 2 ⟨#[105,110]⟩
 by_cases c1:(isS L x1.2 2 ⟨#[105,110]⟩).1=true
 ·have i2:=i1.1 c1
  rw [if_pos c1]
  dsimp only
  have e2:(isS L x1.2 2 ⟨#[105,110]⟩).2=x1.2.up:=by
   unfold isS at c1 ⊢
   split at c1
   ·rename_i hs;rw [if_pos hs]
   ·cases c1
  rw [e2] at i2
  have t3:=zw7 hL (r:=x1.2.up) omq
  generalize fX L x1.2.up=x3 at *
  have bx3:=dJ x3.2.b
  have w6:=sH (L:=L) (r:=x3.2) ⟨#[41]⟩ omq
  generalize mkS L x3.2 ⟨#[41]⟩=r6 at *
  have b6:=dJ r6.b
  refine⟨.one omq t3.2.2.2.2.2.2 g1.fine,?_⟩
  rw [gy,pE]
  simp only [List.length_cons,List.length_nil]
  omega
 ·rw [if_neg c1]
  have i3:=is_f L x1.2 5 ⟨#[126]⟩
  by_cases c2:(isS L x1.2 5 ⟨#[126]⟩).1=true
  ·have i2:=i3.1 c2
   rw [if_pos c2]
   dsimp only
   have e2:(isS L x1.2 5 ⟨#[126]⟩).2=x1.2.up:=by
    unfold isS at c2 ⊢
    split at c2
    ·rename_i hs;rw [if_pos hs]
    ·cases c2
   rw [e2] at i2
   have t3:=gF hL (r:=x1.2.up) 4 omq
   generalize bH L x1.2.up 4=x3 at *
   have bx3:=dJ x3.2.b
   have w6:=sH (L:=L) (r:=x3.2) ⟨#[41]⟩ omq
   generalize mkS L x3.2 ⟨#[41]⟩=r6 at *
   have b6:=dJ r6.b
   refine⟨.one omq t3.2.2.2.2.1 g1.fine,?_⟩
   rw [gy,pE]
   simp only [List.length_cons,List.length_nil]
   omega
  ·rw [if_neg c2]
   dsimp only
   have t3:=gF hL (r:=x1.2) 5 omq
   generalize bH L x1.2 5=x3 at *
   have bx3:=dJ x3.2.b
   have g5:=hg x3.2 omq
   have n5:=g5.n
   generalize g x3.2=x5 at *
   have bx5:=dJ x5.2.b
   have w6:=sH (L:=L) (r:=x5.2) ⟨#[41]⟩ omq
   generalize mkS L x5.2 ⟨#[41]⟩=r6 at *
   have b6:=dJ r6.b
   refine⟨.two omq t3.2.2.2.2.1 g1.fine g5.fine,?_⟩
   rw [gy,z8]
   simp only [List.length_cons,List.length_nil]
   omega
theorem xH (hL:okL L)(hg:GS L f g){r:RS}(ha:r.a≤L.length):FnX (fH L g r).1∧(r.a≤(fH L g r).2.a∧(fH L g r).2.a≤L.length∧((fH L g r).2.b.toNat=0→r.b.toNat=0∧(fH L g r).2.d=r.d∧(fH L g r).1.sz+1≤250*((fH L g r).2.a-r.a))∧r.d≤(fH L g r).2.d∧(fH L g r).2.d≤r.d+f+2):=by
 unfold fH
 dsimp only
 have w1:=sH ⟨#[40]⟩ ha
 generalize mkS L r ⟨#[40]⟩=r1 at *
 have b1:=dJ r1.b
 have g1:=hg r1 omq
 have n1:=g1.n
 generalize g r1=x1 at *
 have b2:=dJ x1.2.b
 have w2:=sH (L:=L) (r:=x1.2) ⟨#[126]⟩ omq
 generalize mkS L x1.2 ⟨#[126]⟩=r2 at *
 have b3:=dJ r2.b
 have t3:=gF hL (r:=r2) 4 omq
 generalize bH L r2 4=x3 at *
 have b4:=dJ x3.2.b
 have w4:=sH (L:=L) (r:=x3.2) ⟨#[44]⟩ omq
 generalize mkS L x3.2 ⟨#[44]⟩=r4 at *
 have b5:=dJ r4.b
 have g5:=hg r4 omq
 have n5:=g5.n
 generalize g r4=x5 at *
 have b6:=dJ x5.2.b
 have w6:=sH (L:=L) (r:=x5.2) ⟨#[41]⟩ omq
 generalize mkS L x5.2 ⟨#[41]⟩=r6 at *
 have b7:=dJ r6.b
 refine⟨.two omq t3.2.2.2.2.1 g1.fine g5.fine,?_⟩
 rw [gy,z8]
 simp only [List.length_cons,List.length_nil]
 omega
theorem xI (hL:okL L)(hg:GS L f g){s:ByteArray}(hs:s.size≤200){r:RS}(ha:r.a≤L.length):FnX (cf L g s r).1∧(r.a≤(cf L g s r).2.a∧(cf L g s r).2.a≤L.length∧((cf L g s r).2.b.toNat=0→r.b.toNat=0∧(cf L g s r).2.d=r.d∧(cf L g s r).1.sz+1≤250*((cf L g s r).2.a-r.a)+250)∧r.d≤(cf L g s r).2.d∧(cf L g s r).2.d≤r.d+f+2):=by
 unfold cf
 have he:ByteArray.empty.size=0:=rfl
 have leaf:∀(k:Int) (t:ByteArray),0≤k∧k≤18→t.size≤200→FnX (xE k 0 t [])∧(r.a≤r.a∧r.a≤L.length∧(r.b.toNat=0→r.b.toNat=0∧r.d=r.d∧(xE k 0 t []).sz+1≤250*(r.a-r.a)+250)∧r.d≤r.d∧r.d≤r.d+f+2):=fun k t hk ht=>⟨.none_ hk omq ht,Nat.le_refl _,ha,fun h=>⟨h,rfl,by
  rw [gy]
  simp only [List.length_nil,E.szL]
  omega⟩,Nat.le_refl _,omq⟩
 have call:∀(k:Int) (t:ByteArray) (m:Int),0≤k∧k≤18→t.size≤200→FnX (xE k 0 t (cv L g m r).1)∧(r.a≤(cv L g m r).2.a∧(cv L g m r).2.a≤L.length∧((cv L g m r).2.b.toNat=0→r.b.toNat=0∧(cv L g m r).2.d=r.d∧(xE k 0 t (cv L g m r).1).sz+1≤250*((cv L g m r).2.a-r.a)+250)∧r.d≤(cv L g m r).2.d∧(cv L g m r).2.d≤r.d+f+2):=fun k t m hk ht=>by
  have h:=zu5 hg m ha
  refine⟨.mk _ _ _ _ hk omq ht h.1,?_⟩
  rw [gy]
  have h2:=h.2
  omega
 split
 ·exact leaf _ _ omq omq
 split
 ·exact leaf _ _ omq omq
 split
 ·exact call _ _ _ omq omq
 split
 ·exact call _ _ _ omq omq
 split
 ·exact call _ _ _ omq omq
 split
 ·exact call _ _ _ omq omq
 split
 ·have h:=xH hL hg ha
  exact⟨h.1,by have h2:=h.2;omega⟩
 split
 ·exact call _ _ _ omq hs
 split
 ·rename_i h
  obtain⟨h1,h2,-⟩:=oe h
  have hu:r.up.a=r.a+1∧r.up.b.toNat=r.b.toNat∧r.up.d=r.d:=⟨rfl,rfl,rfl⟩
  have g1:=hg r.up omq
  have n1:=g1.n
  generalize g r.up=x1 at *
  have b2:=dJ x1.2.b
  have w6:=sH (L:=L) (r:=x1.2) ⟨#[93]⟩ omq
  dsimp only
  generalize mkS L x1.2 ⟨#[93]⟩=r6 at *
  have b7:=dJ r6.b
  refine⟨.one omq hs g1.fine,?_⟩
  rw [gy,pE]
  simp only [List.length_cons,List.length_nil]
  omega
 ·exact leaf _ _ omq hs
theorem xJ (hL:okL L)(hg:GS L f g){r:RS}(ha:r.a≤L.length)(hb:r.b.toNat=0):FnX (dw L g r).1∧(r.a≤(dw L g r).2.a∧(dw L g r).2.a≤L.length∧((dw L g r).2.b.toNat=0→(dw L g r).2.d=r.d∧(dw L g r).1.sz+1≤250*((dw L g r).2.a-r.a))∧r.d≤(dw L g r).2.d∧(dw L g r).2.d≤r.d+f+2):=by
 unfold dw
 have he:ByteArray.empty.size=0:=rfl
 have hu:r.up.a=r.a+1∧r.up.b.toNat=r.b.toNat∧r.up.d=r.d:=⟨rfl,rfl,rfl⟩
 have un:∀(k:Int),0≤k∧k≤18→r.a<L.length→FnX (xE k 0 ByteArray.empty [(g r.up).1])∧(r.a≤(g r.up).2.a∧(g r.up).2.a≤L.length∧((g r.up).2.b.toNat=0→(g r.up).2.d=r.d∧(xE k 0 ByteArray.empty [(g r.up).1]).sz+1≤250*((g r.up).2.a-r.a))∧r.d≤(g r.up).2.d∧(g r.up).2.d≤r.d+f+2):=fun k hk hlt=>by
  have g1:=hg r.up omq
  have n1:=g1.n
  refine⟨.one hk omq g1.fine,?_⟩
  rw [gy,pE]
  simp only [List.length_cons,List.length_nil]
  omega
 split
 ·rename_i h
  obtain⟨h1,h2,-⟩:=oe h
  have h3:=in_PS hL hg (r:=r.up) omq omq
  exact⟨h3.1,by have h4:=h3.2;omega⟩
 split
 ·rename_i h;exact un _ omq (oe h).2.1
 split
 ·rename_i h;exact un _ omq (oe h).2.1
 split
 ·rename_i h;exact un _ omq (oe h).2.1
 split
 ·have h:=gF hL 1 ha
  refine⟨.none_ omq ⟨h.2.2.2.2.2.1,h.2.2.2.2.2.2⟩ omq,?_⟩
  dsimp only
  rw [gy]
  simp only [List.length_nil,E.szL]
  have:=dJ (bH L r 1).2.b
  omega
 split
 ·have h:=gF hL 3 ha
  refine⟨.none_ omq omq h.2.2.2.2.1,?_⟩
  dsimp only
  rw [gy]
  simp only [List.length_nil,E.szL]
  have:=dJ (bH L r 3).2.b
  omega
 ·have h:=gF hL 2 ha
  have hb2:=dJ (bH L r 2).2.b
  have hw:=xI hL hg h.2.2.2.2.1 (r:=(bH L r 2).2) omq
  exact⟨hw.1,by have h4:=hw.2;omega⟩
theorem sI (hL:okL L):∀f:Nat,GS L f (exS L f)
 | 0,r,ha=>by
  have e1:(exS L 0 r).2.a=r.a:=rfl
  have e2:(exS L 0 r).2.b.toNat=1:=rfl
  have e3:(exS L 0 r).2.d=r.d:=rfl
  have:=dJ r.b
  exact⟨.zero,omq⟩
 | f+1,r,ha=>by
  have ih:=sI hL f
  unfold exS
  split
  ·have e1:(⟨r.a,true,r.d+1⟩:RS).a=r.a:=rfl
   have e2:(⟨r.a,true,r.d+1⟩:RS).b.toNat=1:=rfl
   have e3:(⟨r.a,true,r.d+1⟩:RS).d=r.d+1:=rfl
   have:=dJ r.b
   exact⟨.zero,by dsimp only at e1 e2 e3 ⊢;omega⟩
  ·rename_i h
   have hb:r.b.toNat=0:=by
    have:r.b=false:=by cases hb:r.b with
     | false=>rfl
     | true=>exact absurd (.inr (.inl hb)) h
    rw [this];rfl
   have hp:=xJ hL ih (r:=⟨r.a,r.b,r.d+1⟩) ha hb
   refine⟨hp.1,?_⟩
   have h2:=hp.2
   dsimp only at h2 ⊢
   have:=dJ (dw L (exS L f) ⟨r.a,r.b,r.d+1⟩).2.b
   omega
end
def Qn (K:Act→World→Prop)(Q:Exit→Act→World→Prop):Exit→Act→World→Prop
 | .normal,a,w=>K a w
 | .exit l,a,w=>Q (.exit l) a w
 | .goto l,a,w=>Q (.goto l) a w
 | .ret,a,w=>Q .ret a w
 | .panic c,a,w=>Q (.panic c) a w
 | .outgrown,a,w=>Q .outgrown a w
section
variable {P:Program}{ops:Array Oper}{Q:Exit→Act→World→Prop}{C:Ctx}
theorem wp_Qn {o:Oper}{a:Act}{w:World}{K K':Act→World→Prop}(hh:o.wp P a w K (Qn K' Q)):o.wp P a w K Q:=by
 unfold Oper.wp at *
 generalize (execOp a.eval o).run P w=r at *
 cases r with
 | ok n w' =>
  cases n<;>simp only [Oper.upon] at hh ⊢ <;>
   first
    | exact hh
    | exact Calls.mono hh (fun e w'' he=>by cases e<;>exact he)
 | halt x w'=>cases x<;>simp only [Oper.upon] at hh ⊢<;>exact hh
theorem pI {l2:List Nat}:∀(l1:List Nat) (a:Act) (w:World),wpOps P ops (Qn (wpOps P ops Q l2) Q) l1 a w→wpOps P ops Q (l1++l2) a w
 | [],_,_,h=>h
 | i :: r,a,w,h=>by
  rw [List.cons_append,wpOps_cons]
  rw [wpOps_cons] at h
  have h2:=wpOp_mono (fun a w h=>pI r a w h) h
  unfold wpOp at h2 ⊢
  split
  ·rename_i ho
   simp only [ho] at h2
   exact h2
  ·rename_i o ho
   simp only [ho] at h2
   split
   ·rename_i hw
    simp only [hw,if_true] at h2
    exact h2.imp wp_Qn id
   ·rename_i hw
    simp only [hw] at h2
    exact h2
theorem sJ {L:List Nat}{σ:AS}(hL:L.Pairwise (·< ·))(h:Walk P ops Q C false [] L σ){a:Act}{w:World}(hs:Sim C σ a w):wpOps P ops Q L a w:=by
 obtain⟨inf,_,h2,-⟩:=ju hL (fun h hh=>absurd hh List.not_mem_nil) (fun h hh=>absurd hh List.not_mem_nil) List.Pairwise.nil h
 exact kV h2 hs
end
theorem iN {Q:Exit→AS→Prop}{P:Program}{id:Nat}{ops:Array Oper}{σ:AS}(l1 l2:List Nat)(hl:List.range ops.size=l1++l2)(h:∀C,Walk P ops (Qn (wpOps P ops (fun e a w=>∃σ',Q e σ'∧Sim C σ' a w) l2) (fun e a w=>∃σ',Q e σ'∧Sim C σ' a w)) C false [] l1 σ):AWp P (.region id ops false) Q σ:=fun C a w hs=>by
 refine wp_region ?_
 rw [hl]
 have hp:=gL ops.size
 rw [hl] at hp
 exact pI l1 a w (sJ (List.pairwise_append.1 hp).1 (h C) hs)
theorem og {Q:Exit→AS→Prop}{P:Program}{ops:Array Oper}{C:Ctx}{l2:List Nat}{σ σ':AS}(hg:Gh σ σ')(hL:l2.Pairwise (·< ·))(h:Walk P ops (fun e a w=>∃σ',Q e σ'∧Sim C σ' a w) C false [] l2 σ'):Walk P ops (Qn (wpOps P ops (fun e a w=>∃σ',Q e σ'∧Sim C σ' a w) l2) (fun e a w=>∃σ',Q e σ'∧Sim C σ' a w)) C false [] [] σ:=fun a w hs=>sJ hL h (hg C a w hs)
theorem l4 {k:Int}{l:List E}:CtrT prog 43 [.c (.v (.int .i64 k)),.c .un] 1 26 4 l.length (owL l) (.ag (owE (xE k 0 ByteArray.empty l))) none:=by
 refine zf3 func43 rfl rfl rfl ?_
 unfold σT
 repeat' (first|(apply av;first|refine ak ?_|refine bg ?_|refine bI ?_|refine az ?_)|refine aj ?_|refine ab ?_|refine aa fun C=>?_|refine ac ?_)
 refine am ?_;refine bv rfl (bh (aS rfl (aS rfl (aS rfl (bB rfl rfl rfl cls0 aV))))) ⟨?_,rfl⟩
 rfl
theorem zv5 {n:Int}:Ctr prog 91 [.c (.v (.int .i64 n))] [] (.ag (owE (xE 1 n ByteArray.empty []))) []:=by
 refine ay func91 rfl rfl ?_
 repeat' (first|(apply av;first|refine ak ?_|refine bg ?_|refine bI ?_|refine az ?_)|refine aj ?_|refine ab ?_|refine aa fun C=>?_|refine ac ?_)
 refine a7 (cR 90000 (i:=2) 26 4 rfl rfl (pre:=[_,_,_]) (post:=[]) rfl) ?_
 refine am ?_;refine bv rfl (bh (aS rfl (aS rfl (aS rfl (bB rfl rfl rfl cls0 aV))))) ⟨?_,rfl⟩
 rfl
theorem zw5 {s:ByteArray}:Ctr prog 96 [.c (.v (.string s))] [] (.ag (owE (xE 3 0 s []))) []:=by
 refine ay func96 rfl rfl ?_
 repeat' (first|(apply av;first|refine ak ?_|refine bg ?_|refine bI ?_|refine az ?_)|refine aj ?_|refine ab ?_|refine aa fun C=>?_|refine ac ?_)
 refine a7 (cR 90000 (i:=2) 26 4 rfl rfl (pre:=[_,_,_]) (post:=[]) rfl) ?_
 refine am ?_;refine bv rfl (bh (aS rfl (aS rfl (aS rfl (bB rfl rfl rfl cls0 aV))))) ⟨?_,rfl⟩
 rfl
end Go.Proofs.YtomolhbkdhjofaaGreatDoor
