/- GetS: the plain law. -/
import Derived.Test.YtghljnfbbaklnaaGreatGetModuleN
namespace Go.Proofs.YtghljnfbbaklnaaGreat
open Go.RowKit
theorem zw7:∀bs:List UInt8,toRoL (bytC bs)=bytC bs
 | []=>rfl
 | b :: r=>by
  show AC.v _ :: toRoL (bytC r)=AC.v _ :: bytC r
  rw [zw7 r]
theorem zw10:∀bs:List UInt8,rofrL (bytC bs)=true
 | []=>rfl
 | b :: r=>by
  show (true&&rofrL (bytC r))=true
  rw [zw10 r];rfl
section
variable {ops:Array Oper}{Q:Exit→Act→World→Prop}{C:Ctx}{i:Nat}{r:List Nat}
variable {tm:Nat→AV}{hp:Nat→Option Row}{gn L:Nat}{us:List Nat}
theorem ze9 {ty:TypeId}{gd:Option (Nat×Bool)}{ps:String}{af:Array Edge}{t:Nat}{cas:Array Operand}{cts:Array TypeId}{fv:Operand}{f:FuncId}{caps:List AC}{args ins:List AV}{x:Value}(hctr:Ctr Tryz.prog f ins [] (.c (.v x)) [])(h:Walk Tryz.prog ops Q C false [] r ⟨upd tm t (.c (.v x)),hp,gn,us,L⟩)(ht:Nat.blt t L=true:=by exact rfl)(hg:gw ops tm (⟨some t,.call ⟨.value fv,cas,cts⟩,ty,ps,af,gd⟩:Oper)=some true:=by exact rfl)(hfv:AS.ev ⟨tm,hp,gn,us,L⟩ fv=.c (.fn f caps):=by exact rfl)(hargs:callArgs ⟨tm,hp,gn,us,L⟩ ⟨.value fv,cas,cts⟩ caps=args:=by exact rfl)(hcv:args.map (cvV hp [])=ins:=by (first|((repeat' (first|rfl|exact zo5|refine zk4 ?_ ?_|refine zb12 ?_|refine cv_c ?_|refine zl4 ?_ ?_|(refine zy6 ?_;(first|exact zw1 _|exact ze _|exact byc))|(refine zz6 ?_;exact byc)|refine za7 ?_|(refine cvC_sl' (by rfl) (by rfl) (by rfl) (by rfl) ?_ ?_;(focus (first|exact zw1 _|exact byc));(first|rfl|exact zw7 _|exact zv3 _))))<;>exact rfl)|fail)):WalkO Tryz.prog ops Q C false [] i (⟨some t,.call ⟨.value fv,cas,cts⟩,ty,ps,af,gd⟩:Oper) r ⟨tm,hp,gn,us,L⟩:=zu1 (hctr:=hctr) (h:=h) (ht:=ht) (hg:=hg) (hfv:=hfv) (hargs:=hargs) (hcv:=hcv)
theorem zh19 {ty:TypeId}{gd:Option (Nat×Bool)}{cas:Array Operand}{cts:Array TypeId}{ps:String}{af:Array Edge}{t:Nat}{fv:Operand}{f:FuncId}{caps:List AC}{args ins:List AV}{res:AV}{nv:AV}{nr:List (Nat×Row)}(hctr:Ctr Tryz.prog f ins [] res [])(h:Walk Tryz.prog ops Q C false [] r ⟨upd tm t nv,updL hp (nr.map (fun p=>(p.1,some p.2))),gn,nr.map (·.1)++us,L⟩)(ht:Nat.blt t L=true:=by exact rfl)(hg:gw ops tm (⟨some t,.call ⟨.value fv,cas,cts⟩,ty,ps,af,gd⟩:Oper)=some true:=by exact rfl)(hfv:AS.ev ⟨tm,hp,gn,us,L⟩ fv=.c (.fn f caps):=by exact rfl)(hargs:callArgs ⟨tm,hp,gn,us,L⟩ ⟨.value fv,cas,cts⟩ caps=args:=by exact rfl)(hcv:args.map (cvV hp [])=ins:=by (first|((repeat' (first|rfl|exact zo5|refine zk4 ?_ ?_|refine zb12 ?_|refine cv_c ?_|refine zl4 ?_ ?_|(refine zy6 ?_;(first|exact zw1 _|exact ze _|exact byc))|(refine zz6 ?_;exact byc)|refine za7 ?_|(refine cvC_sl' (by rfl) (by rfl) (by rfl) (by rfl) ?_ ?_;(focus (first|exact zw1 _|exact byc));(first|rfl|exact zw7 _|exact zv3 _))))<;>exact rfl)|fail))(hm:rofrV res=true:=by first|exact zw10 _|(first|rfl|exact zr2 _|(simp [rofrV,rofrVL,rofrL,rofr,zr2,zt3,zm3];done)))(hopn:opV (100*(t+1)) res=(nv,nr):=by exact rfl)(hf:(nr.all fun p=>Nat.ble gn p.1&&!us.contains p.1)=true:=by exact rfl):WalkO Tryz.prog ops Q C false [] i (⟨some t,.call ⟨.value fv,cas,cts⟩,ty,ps,af,gd⟩:Oper) r ⟨tm,hp,gn,us,L⟩:=zo3 (hctr:=hctr) (h:=h) (ht:=ht) (hg:=hg) (hfv:=hfv) (hargs:=hargs) (hcv:=hcv) (hm:=hm) (hopn:=hopn) (hf:=hf)
theorem zs12 {H:List (Nat×Oper×Inf)}{dr:Bool}{ty:TypeId}{gd:Option (Nat×Bool)}{cas:Array Operand}{cts:Array TypeId}{ps:String}{af:Array Edge}{t:Nat}{fv:Operand}{f:FuncId}{caps:List AC}{args ins:List AV}{res:AV}{nv:AV}{nr:List (Nat×Row)}(hctr:Ctr Tryz.prog f ins [] res [])(h:Walk Tryz.prog ops Q C dr (keepH dr (i,(⟨some t,.call ⟨.value fv,cas,cts⟩,ty,ps,af,gd⟩:Oper),⟨args.flatMap snV++[],nr.map (fun p=>(p.1,some p.2)),nr.map (·.1),nv⟩) H) r ⟨upd tm t nv,updL hp (nr.map (fun p=>(p.1,some p.2))),gn,nr.map (·.1)++us,L⟩)(ht:Nat.blt t L=true:=by exact rfl)(hg:gw ops tm (⟨some t,.call ⟨.value fv,cas,cts⟩,ty,ps,af,gd⟩:Oper)=some true:=by exact rfl)(hfv:AS.ev ⟨tm,hp,gn,us,L⟩ fv=.c (.fn f caps):=by exact rfl)(hargs:callArgs ⟨tm,hp,gn,us,L⟩ ⟨.value fv,cas,cts⟩ caps=args:=by exact rfl)(hcv:args.map (cvV hp [])=ins:=by (first|((repeat' (first|rfl|exact zo5|refine zk4 ?_ ?_|refine zb12 ?_|refine cv_c ?_|refine zl4 ?_ ?_|(refine zy6 ?_;(first|exact zw1 _|exact ze _|exact byc))|(refine zz6 ?_;exact byc)|refine za7 ?_|(refine cvC_sl' (by rfl) (by rfl) (by rfl) (by rfl) ?_ ?_;(focus (first|exact zw1 _|exact byc));(first|rfl|exact zw7 _|exact zv3 _))))<;>exact rfl)|fail))(hm:rofrV res=true:=by first|exact zw10 _|(first|rfl|exact zr2 _|(simp [rofrV,rofrVL,rofrL,rofr,zr2,zt3,zm3];done)))(hopn:opV (100*(t+1)) res=(nv,nr):=by exact rfl)(hf:(nr.all fun p=>Nat.ble gn p.1&&!us.contains p.1)=true:=by exact rfl)(hc:chk dr ops i (⟨some t,.call ⟨.value fv,cas,cts⟩,ty,ps,af,gd⟩:Oper) ⟨args.flatMap snV++[],nr.map (fun p=>(p.1,some p.2)),nr.map (·.1),nv⟩ H=true:=by first|(with_reducible exact zz1)|kernel_rfl):WalkO Tryz.prog ops Q C dr H i (⟨some t,.call ⟨.value fv,cas,cts⟩,ty,ps,af,gd⟩:Oper) r ⟨tm,hp,gn,us,L⟩:=zu5 (hctr:=hctr) (h:=h) (ht:=ht) (hg:=hg) (hfv:=hfv) (hargs:=hargs) (hcv:=hcv) (hm:=hm) (hopn:=hopn) (hf:=hf) (hc:=hc)
end
def sumP:List UInt8→Int
 | []=>0
 | c :: r=>((c.toNat % 128:Nat):Int)+128*sumP r
def sDec:List UInt8→Int
 | []=>0
 | [c]=>if 64≤c.toNat then (c.toNat:Int)-128 else c.toNat
 | c :: d :: r=>((c.toNat % 128:Nat):Int)+128*sDec (d :: r)
def Wfs:List UInt8→Prop
 | []=>False
 | [c]=>c.toNat<128
 | c :: d :: r=>128≤c.toNat∧Wfs (d :: r)
theorem zi19 {x:Int}(h0:0≤x)(h1:x<256):((b8 x).toNat:Int)=x:=by
 unfold b8
 rw [UInt8.toNat_ofNat']
 omega
theorem sGo_ne (f:Nat)(n:Int):∃c r,sGo f n=c :: r:=by
 cases f with
 | zero=>exact⟨_,_,rfl⟩
 | succ f=>unfold sGo;split<;>exact⟨_,_,rfl⟩
theorem sDec_sGo:∀(f:Nat) (n:Int),sIn f n→sDec (sGo f n)=n∧Wfs (sGo f n):=by
 have last:∀n:Int,-64≤n∧n≤63→sDec [b8 (n % 128)]=n∧Wfs [b8 (n % 128)]:=fun n h=>by
  have e:=zi19 (x:=n % 128) (by omega) (by omega)
  simp only [sDec,Wfs]
  constructor
  ·split<;>omega
  ·omega
 intro f
 induction f with
 | zero =>
  intro n h
  unfold sIn at h
  exact last n (by simp at h;omega)
 | succ f ih =>
  intro n h
  unfold sGo
  split
  ·rename_i h1;exact last n h1
  ·obtain⟨i1,i2⟩:=ih (n / 128) (zx9 h)
   obtain⟨c,r,e⟩:=sGo_ne f (n / 128)
   have e0:=zi19 (x:=n % 128+128) (by omega) (by omega)
   rw [e] at i1 i2 ⊢
   simp only [sDec,Wfs]
   refine⟨?_,by omega,i2⟩
   rw [i1]
   omega
theorem sGo_uni:∀(f:Nat) (m:Int) (cs:List UInt8),sIn f m→Wfs cs→cs.length=(sGo f m).length→sDec cs=m→cs=sGo f m:=by
 have last:∀(m:Int) (cs:List UInt8),Wfs cs→cs.length=1→sDec cs=m→cs=[b8 (m % 128)]:=fun m cs hw hl he=>by
  match cs,hw,hl,he with
  | [c],hw,_,he =>
   simp only [sDec,Wfs] at he hw
   have hc:((c.toNat:Nat):Int)=m % 128:=by split at he<;>omega
   congr 1
   unfold b8
   rw [←hc]
   simp
 intro f
 induction f with
 | zero=>intro m cs hI hw hl he;exact last m cs hw (by simpa [sGo] using hl) he
 | succ f ih =>
  intro m cs hI hw hl he
  unfold sGo at hl ⊢
  split at hl
  ·rename_i h1;rw [if_pos h1];exact last m cs hw (by simpa using hl) he
  ·rename_i h1
   rw [if_neg h1]
   obtain⟨c',r',e'⟩:=sGo_ne f (m / 128)
   match cs,hw,hl,he with
   | [c],hw,hl,he=>rw [e'] at hl;simp at hl
   | c :: d :: r,hw,hl,he =>
    simp only [sDec,Wfs] at he hw
    have hc:((c.toNat:Nat):Int)<256:=by have:=c.toNat_lt;omega
    have hm:sDec (d :: r)=m / 128:=by omega
    have hr:=ih (m / 128) (d :: r) (zx9 hI) hw.2 (by simpa using hl) hm
    rw [hr]
    congr 1
    unfold b8
    have:((c.toNat:Nat):Int)=m % 128+128:=by omega
    rw [←this]
    simp
theorem sumP_snoc (pre:List UInt8)(c:UInt8):sumP (pre++[c])=sumP pre+((c.toNat % 128:Nat):Int)*128 ^ pre.length:=by
 induction pre with
 | nil=>simp [sumP]
 | cons d r ih =>
  simp only [List.cons_append,sumP,ih,List.length_cons,Int.pow_succ]
  rw [Int.mul_add,Int.add_assoc,Int.mul_comm (128 ^ r.length) 128,←Int.mul_assoc 128,Int.mul_comm 128 ((c.toNat % 128:Nat):Int),Int.mul_assoc]
theorem sumP_rng (pre:List UInt8):0≤sumP pre∧sumP pre<128 ^ pre.length:=by
 induction pre with
 | nil=>simp [sumP]
 | cons d r ih =>
  simp only [sumP,List.length_cons,Int.pow_succ]
  generalize (128:Int) ^ r.length=q at *
  omega
theorem sDec_snoc (pre:List UInt8)(c:UInt8)(h:∀d∈pre,128≤d.toNat)(hc:c.toNat<128):Wfs (pre++[c])∧sDec (pre++[c])=sumP pre+((c.toNat % 128:Nat):Int)*128 ^ pre.length-(if 64≤c.toNat then 128 ^ (pre.length+1) else 0):=by
 induction pre with
 | nil =>
  refine⟨hc,?_⟩
  simp only [List.nil_append,sDec,sumP,List.length_nil,Int.pow_zero]
  rw [Nat.mod_eq_of_lt hc]
  split<;>simp<;>omega
 | cons d r ih =>
  obtain⟨i1,i2⟩:=ih fun x hx=>h x (List.mem_cons_of_mem _ hx)
  have hd:=h d List.mem_cons_self
  obtain⟨x,y,e⟩:∃x y,r++[c]=x :: y:=by cases r<;>exact⟨_,_,rfl⟩
  rw [List.cons_append,e]
  rw [e] at i1 i2
  refine⟨⟨hd,i1⟩,?_⟩
  simp only [sDec,i2,sumP,List.length_cons,Int.pow_succ]
  generalize (128:Int) ^ r.length=q
  generalize ((c.toNat % 128:Nat):Int)=u
  have:(u*(q*128))=128*(u*q):=by rw [←Int.mul_assoc,Int.mul_comm]
  rw [this]
  split<;>omega
def okSg (m:Int)(k:Nat):Bool:=(wrapI m==m)&&((putS m).length==k+1)
theorem okSg_iff {pre:List UInt8}{c:UInt8}(h:∀d∈pre,128≤d.toNat)(hc:c.toNat<128){m:Int}(hm:m=sumP pre+((c.toNat % 128:Nat):Int)*128 ^ pre.length-(if 64≤c.toNat then 128 ^ (pre.length+1) else 0)):okSg m pre.length=(putS m==pre++[c]):=by
 obtain⟨w1,w2⟩:=sDec_snoc pre c h hc
 rw [←hm] at w2
 apply Bool.eq_iff_iff.2
 simp only [okSg,Bool.and_eq_true,beq_iff_eq]
 constructor
 ·rintro ⟨h1,h2⟩
  unfold putS at *
  rw [h1] at h2 ⊢
  exact (sGo_uni 5 m (pre++[c]) (by have:=zy9 m;rwa [h1] at this) w1 (by rw [h2];simp) w2).symm
 ·intro h1
  have hl:(putS m).length=pre.length+1:=by rw [h1];simp
  refine⟨?_,hl⟩
  obtain⟨d1,-⟩:=sDec_sGo 5 (wrapI m) (zy9 m)
  have:sDec (putS m)=wrapI m:=d1
  rw [h1,w2] at this
  exact this.symm
def getSGo (bs:List UInt8)(p:Nat):Nat→Nat→Int→Int×Int×Bool
 | 0,_,_=>(0,0,false)
 | f+1,k,n=>match bs[p+k]? with
  | none=>(0,0,false)
  | some b =>
   if 128≤b.toNat then getSGo bs p f (k+1) (n+((b.toNat % 128:Nat):Int)*128 ^ k)
   else if okSg (n+((b.toNat % 128:Nat):Int)*128 ^ k-(if 64≤b.toNat then 128 ^ (k+1) else 0)) k=true then (n+((b.toNat % 128:Nat):Int)*128 ^ k-(if 64≤b.toNat then 128 ^ (k+1) else 0),((p+k+1:Nat):Int),true) else (0,0,false)
def getS (bs:List UInt8)(at_:Int):Int×Int×Bool:=if 0≤at_∧at_<bs.length then getSGo bs at_.toNat 5 0 0 else (0,0,false)
theorem pow7 (k:Nat):(2:Int) ^ (7*(k:Int)).toNat=128 ^ k∧(2:Int) ^ (7*(k:Int)+7).toNat=128 ^ (k+1):=by
 have h1:(7*(k:Int)).toNat=7*k:=by omega
 have h2:(7*(k:Int)+7).toNat=7*(k+1):=by omega
 rw [h1,h2,Int.pow_mul,Int.pow_mul]
 exact⟨rfl,rfl⟩
theorem pow_le {k:Nat}(h:k≤4):1≤(128:Int) ^ k∧(128:Int) ^ k≤268435456∧(128:Int) ^ (k+1)=128*128 ^ k:=by
 refine⟨?_,?_,by rw [Int.pow_succ,Int.mul_comm]⟩<;>(rcases (show k=0∨k=1∨k=2∨k=3∨k=4 by omega) with rfl|rfl|rfl|rfl|rfl<;>decide)
set_option maxRecDepth 100000
def inR (x a b:Int):Bool:=decide (a≤x)&&decide (x≤b)
theorem zw4 (x a b:Int):Ctr Tryz.prog 102 [.c (.v (.int .i64 x)),.c (.v (.int .i64 a)),.c (.v (.int .i64 b))] [] (.c (.v (.bool (inR x a b)))) []:=by
 refine zi1 Tryz.func102 rfl rfl ?_
 repeat' (first|refine zd ?_|refine za fun C=>?_|refine zc ?_|(refine x_gm ?_ ?_<;>intro hG<;>(try cases hG))|refine zm2 ?_|refine x_sk ?_)
 all_goals
  refine zi ?_
  refine ret0 rfl zy ⟨?_,rfl⟩
  refine congrArg (fun s=>AV.c (AC.v (Value.bool s))) ?_
  simp at *
  simp [inR, *]
  try omega
theorem zx10 (x a b:Int):Ctr Tryz.prog 97 [.c (.v (.int .i64 x)),.c (.v (.int .i64 a)),.c (.v (.int .i64 b))] [] (.c (.v (.bool (inR x a b)))) []:=by
 refine zi1 Tryz.func97 rfl rfl ?_
 repeat' (first|refine zd ?_|refine za fun C=>?_|refine zc ?_|(refine x_gm ?_ ?_<;>intro hG<;>(try cases hG))|refine zm2 ?_|refine x_sk ?_)
 all_goals
  refine zi ?_
  refine ret0 rfl zy ⟨?_,rfl⟩
  refine congrArg (fun s=>AV.c (AC.v (Value.bool s))) ?_
  simp at *
  simp [inR, *]
  try omega
def digB (c:Nat):Bool:=decide (48≤c)&&decide (c≤57)
theorem isDigit_c (c:Nat):Ctr Tryz.prog 228 [.c (.v (.int .u8 (c:Int)))] [] (.c (.v (.bool (digB c)))) []:=by
 refine zi1 Tryz.func228 rfl rfl ?_
 repeat' (first|refine zd ?_|refine za fun C=>?_|refine zc ?_|(refine x_gm ?_ ?_<;>intro hG<;>(try cases hG))|refine zm2 ?_|refine x_sk ?_)
 all_goals
  (first|refine zi ?_|skip);refine ret0 rfl zy ⟨?_,rfl⟩;refine congrArg (fun s=>AV.c (AC.v (Value.bool s))) ?_
  unfold digB
  (rw [Bool.eq_iff_iff];(try simp only [Bool.and_eq_true,Bool.or_eq_true,Bool.not_eq_true',decide_eq_true_iff,decide_eq_false_iff_not,beq_iff_eq,Bool.and_eq_false_iff,Bool.or_eq_false_iff,bne_iff_ne,ne_eq,Bool.true_eq_false,Bool.false_eq_true,true_iff,false_iff,iff_true,iff_false] at *);first|omega|(simp at *;omega))
theorem l2Digit_c {c:Nat}(hc:c<256):Ctr Tryz.prog 237 [.c (.v (.int .u8 (c:Int)))] [] (.c (.v (.bool (digB c)))) []:=by
 refine zi1 Tryz.func237 rfl rfl ?_
 repeat' (first|refine zd ?_|refine za fun C=>?_|refine zc ?_|refine zj17 ?_|refine zm2 ?_|refine zd6 (zx10 _ _ _) ?_)
 all_goals
  (first|refine zi ?_|skip);refine ret0 rfl zy ⟨?_,rfl⟩;refine congrArg (fun s=>AV.c (AC.v (Value.bool s))) ?_
  unfold digB inR
  (rw [Bool.eq_iff_iff];(try simp only [Bool.and_eq_true,Bool.or_eq_true,Bool.not_eq_true',decide_eq_true_iff,decide_eq_false_iff_not,beq_iff_eq,Bool.and_eq_false_iff,Bool.or_eq_false_iff,bne_iff_ne,ne_eq,Bool.true_eq_false,Bool.false_eq_true,true_iff,false_iff,iff_true,iff_false] at *);first|omega|(simp at *;omega))
theorem zx7 (p:E→Bool)(l:List E):decide (idxF p l ≥ 0)=l.any p:=by
 cases h:l.any p with
 | true =>
  obtain⟨x,hx,hp⟩:=List.any_eq_true.1 h
  rcases zp20 p l with h1|⟨k,h1,_⟩
  ·have:=idxF_neg h1
   rw [List.findIdx?_eq_none_iff] at this
   rw [this x hx] at hp;cases hp
  ·rw [h1];simp
 | false =>
  have hn:∀x∈l,p x=false:=fun x hx=>by
   cases hp:p x with
   | false=>rfl
   | true=>rw [List.any_eq_true.2 ⟨x,hx,hp⟩] at h;cases h
  rw [zt5 fun j y _ hy=>hn y (List.mem_of_getElem? hy)]
  rfl
section
variable {ops:Array Oper}{Q:Exit→Act→World→Prop}{C:Ctx}{H:List (Nat×Oper×Inf)}{i:Nat}{r:List Nat}{dr:Bool}
variable {tm:Nat→AV}{hp:Nat→Option Row}{gn L:Nat}{us:List Nat}
theorem zx3 {ty:TypeId}{gd:Option (Nat×Bool)}{ps:String}{af:Array Edge}{t:Nat}{y:Operand}(x:AV)(h:Walk Tryz.prog ops Q C dr (keepH dr (i,(⟨some t,.move y,ty,ps,af,gd⟩:Oper),⟨[],[],[],x⟩) H) r ⟨upd tm t x,hp,gn,us,L⟩)
 (ht:Nat.blt t L=true:=by exact rfl) (hg:gw ops tm (⟨some t,.move y,ty,ps,af,gd⟩:Oper)=some true:=by exact rfl) (hx:AS.ev ⟨tm,hp,gn,us,L⟩ y=x:=by exact rfl)
 (hc:chk dr ops i (⟨some t,.move y,ty,ps,af,gd⟩:Oper) ⟨[],[],[],x⟩ H=true:=by first|(with_reducible exact zz1)|kernel_rfl):WalkO Tryz.prog ops Q C dr H i (⟨some t,.move y,ty,ps,af,gd⟩:Oper) r ⟨tm,hp,gn,us,L⟩:=⟨fun hop=>by
 refine⟨_,⟨[],[],[],x⟩,hop,?_,fun n hn=>absurd hn List.not_mem_nil,za5 hc,zk3 ?_⟩
 ·intro τ a w ha hsim K hK
  obtain⟨φ,F,St,hsim⟩:=hsim
  have e1:τ.ev y=x:=by rw [ha.ev y (by show y∈#[y];simp)];exact hx
  have v1:=hsim.ev y
  rw [e1] at v1
  unfold wpOp
  rw [hop]
  have hw:=zk20 hsim (b:=true) (by rw [ha.gw];exact hg)
  simp only [hw,if_true]
  refine .inl ?_
  unfold Oper.wp
  have hrun:(execOp a.eval (⟨some t,.move y,ty,ps,af,gd⟩:Oper)).run Tryz.prog w=.ok (.value (a.eval y)) w:=by simp [execOp]
  rw [hrun]
  exact hK _ _ ⟨φ,F,St,hsim.put (some t) v1⟩
 ·show Walk Tryz.prog ops Q C dr _ r (AS.put _ (some t) _)
  rw [zs5 (by exact zz4 ht)];exact h⟩
theorem zp9 {ty:TypeId}{gd:Option (Nat×Bool)}{ps:String}{af:Array Edge}{t:Nat}{y:Operand}(v:AV)(h:Walk Tryz.prog ops Q C dr (keepH dr (i,(⟨some t,.assign y,ty,ps,af,gd⟩:Oper),⟨fpO (AS.ev ⟨tm,hp,gn,us,L⟩) (⟨some t,.assign y,ty,ps,af,gd⟩:Oper),[],[],v⟩) H) r ⟨upd tm t v,hp,gn,us,L⟩)
 (ht:Nat.blt t L=true:=by exact rfl) (hg:gw ops tm (⟨some t,.assign y,ty,ps,af,gd⟩:Oper)=some true:=by exact rfl) (hy:AS.ev ⟨tm,hp,gn,us,L⟩ y=v:=by exact rfl)
 (hc:chk dr ops i (⟨some t,.assign y,ty,ps,af,gd⟩:Oper) ⟨fpO (AS.ev ⟨tm,hp,gn,us,L⟩) (⟨some t,.assign y,ty,ps,af,gd⟩:Oper),[],[],v⟩ H=true:=by first|(with_reducible exact zz1)|kernel_rfl):WalkO Tryz.prog ops Q C dr H i (⟨some t,.assign y,ty,ps,af,gd⟩:Oper) r ⟨tm,hp,gn,us,L⟩:=zf2 (x:=v) h ht hg (congrArg (fun z=>some (z,Dl.nop)) hy) hc
end
def Byt (l:List E):Prop:=∀e∈l,∃x:Nat,x<256∧e=.int .u8 (x:Int)
theorem Byt.enc {l:List E}(h:Byt l):∀e∈l,e.enc.length=1:=fun e he=>by obtain⟨x,-,rfl⟩:=h e he;rfl
end Go.Proofs.YtghljnfbbaklnaaGreat
-- BIT
-- MVP
namespace Go.Proofs.YtghljnfbbaklnaaGreat
open Go.RowKit
set_option maxRecDepth 100000
theorem zj19 {bs:List UInt8}{at_:Int}(h:¬(0≤at_∧at_<bs.length)):getS bs at_=(0,0,false):=by unfold getS;rw [if_neg h]
theorem getS_in {bs:List UInt8}{p:Nat}(h:p<bs.length):getS bs (p:Int)=getSGo bs p 5 0 0:=by unfold getS;rw [if_pos ⟨by omega,by omega⟩];simp
theorem bI_at {bs:List UInt8}{j:Nat}{b:UInt8}(h:bs[j]? = some b):(bI bs)[j]? = some (.int .u8 (b.toNat:Int)):=by unfold bI;rw [List.getElem?_map,h];rfl
set_option maxHeartbeats 4000000 in
theorem zw20 {bs:List UInt8}(at_:Int)(hat : -9223372036854775808≤at_∧at_≤9223372036854775807)(hn:bs.length≤1073741824):Ctr Tryz.prog 183 [.c (.ro bs.length 1 (acL (bI bs))),.c (.v (.int .i64 at_))] [] (.tu [.c (.v (.int .i64 (getS bs at_).1)),.c (.v (.int .i64 (getS bs at_).2.1)),.c (.v (.bool (getS bs at_).2.2))]) []:=by
 have hk:=zf19 (bs:=bs)
 have hbl:=ze19 (bs:=bs)
 by_cases hp:0≤at_∧at_<bs.length
 ·obtain⟨p,rfl⟩:∃p:Nat,at_=(p:Int):=⟨at_.toNat,by omega⟩
  rw [getS_in (by omega)]
  obtain⟨R,hR⟩:∃R,getSGo bs p 5 0 0=R:=⟨_,rfl⟩
  rw [hR]
  refine zi1 Tryz.func183 rfl rfl ?_
  repeat' (first|(apply f_wo;(apply f_as;refine zu (v:=.c _) ?_))|(apply f_w;first|refine zo ?_|refine zc ?_)|refine za fun C=>?_|refine zd ?_|refine zg ?_)
  refine zt1 (fun d:Nat×Int=>⟨tmsF [(0,.c (.ro bs.length 1 (acL (bI bs)))),(1,.c (.v (.int .i64 (p:Int)))),(7,.c (.v (.int .i64 d.2))),(8,.c (.v (.int .i64 (d.1:Int))))],hpsF [],0,[],76⟩)
   (fun N d=>getSGo bs p N d.1 d.2=R∧d.1+N=5∧0≤d.2∧d.2<128 ^ d.1) 5 (0,0) ⟨hR,by simp,by simp,by simp⟩ ?_ ?_
  ·(refine zk1 _ _ rfl rfl ?_ ?_<;>(repeat' (first|exact TmOk.nil|exact RwOk.nil|refine TmOk.cons ?_ ?_|refine RwOk.cons ?_ ?_|rfl|(refine rnV_id' rfl ?_;exact byc)|(refine zo1 ?_;first|rfl|omega|(rw [za1 (by omega) (by omega)];omega))|(refine zv rfl ?_;exact byc)|exact zg2 rfl rfl|(refine zp1 (by rfl) (by rfl) ?_ ?_<;>exact byc)|(refine rw_rn' rfl rfl ?_;simp;done))))
  rintro N ⟨k,n⟩ ⟨hE,hN,h0,h1⟩
  dsimp only at hE hN h0 h1 ⊢
  clear hR
  cases N with
  | zero =>
   rw [show R=(0,0,false) from hE.symm]
   repeat' (first|(apply f_wo;first|(apply f_gs;refine n_sk ?_)|(apply f_mv;first|(refine zs1 ?_ ?_<;>intro hG<;>(try cases hG))|refine zt (v:=.c _) ?_)|(apply f_bi;refine zl2 ?_)|(apply zw2;refine zf1 ?_)|(apply zo9;refine zp3 ?_)|(apply zb2;refine zx ?_)|(apply f_pk;refine zr1 (v:=.c _) ?_))|(apply f_w;first|refine zo ?_|refine zc ?_)|refine za fun C=>?_|refine zd ?_)
   all_goals first
    | (exfalso;simp only [decide_eq_true_iff,decide_eq_false_iff_not,ge_iff_le] at *;omega)
    | skip
   refine zr rfl ?_
   repeat' (first|(apply f_wo;(apply f_as;refine zu (v:=.c _) ?_))|(apply f_w;first|refine zo ?_|refine zc ?_)|refine za fun C=>?_|refine zd ?_|refine zw ?_)
   refine zi ?_;refine ret0 rfl (zc2 (zj zy (zj zy (zj zy zj1)))) ⟨?_,rfl⟩
   rfl
  | succ f =>
   have hk4:k≤4:=by omega
   obtain⟨q1,q2,q3⟩:=pow_le hk4
   obtain⟨e7,e8⟩:=pow7 k
   cases hb:bs[p+k]? with
   | none =>
    have hlen:bs.length≤p+k:=by
     rcases Nat.lt_or_ge (p+k) bs.length with h|h
     ·rw [List.getElem?_eq_getElem h] at hb;cases hb
     ·exact h
    rw [getSGo,hb] at hE
    rw [show R=(0,0,false) from hE.symm]
    repeat' (first|(apply f_wo;first|(apply f_gs;refine n_sk ?_)|(apply f_mv;first|(refine zs1 ?_ ?_<;>intro hG<;>(try cases hG))|refine zt (v:=.c _) ?_)|(apply f_bi;refine zl2 ?_)|(apply zw2;refine zf1 ?_)|(apply zo9;refine zp3 ?_)|(apply zb2;refine zx ?_)|(apply f_pk;refine zr1 (v:=.c _) ?_))|(apply f_w;first|refine zo ?_|refine zc ?_)|refine za fun C=>?_|refine zd ?_)
    all_goals first
     | (exfalso;simp only [decide_eq_true_iff,decide_eq_false_iff_not,ge_iff_le] at *;omega)
     | skip
    all_goals first
     | (refine zr rfl ?_)
     | (refine zn (by rfl) (fun hC=>absurd (of_decide_eq_true hC) (by omega)) fun hC=>?_)
    all_goals
     repeat' (first|(apply f_wo;(apply f_as;refine zu (v:=.c _) ?_))|(apply f_w;first|refine zo ?_|refine zc ?_)|refine za fun C=>?_|refine zd ?_|refine zw ?_)
     refine zi ?_;refine ret0 rfl (zc2 (zj zy (zj zy (zj zy zj1)))) ⟨?_,rfl⟩
     rfl
   | some b =>
    have hlt:p+k<bs.length:=(List.getElem?_eq_some_iff.1 hb).1
    have hc:=b.toNat_lt
    have hx:=bI_at hb
    rw [getSGo,hb] at hE
    dsimp only at hE
    obtain⟨u,hu⟩:∃u:Int,((b.toNat % 128:Nat):Int)=u:=⟨_,rfl⟩
    obtain⟨q,hq⟩:∃q:Int,(128:Int) ^ k=q:=⟨_,rfl⟩
    rw [hq] at q1 q2 q3 e7 h1
    rw [q3] at e8
    rw [hu,hq,q3] at hE
    obtain⟨w,hw⟩:∃w:Int,u*q=w:=⟨_,rfl⟩
    rw [hw] at hE
    have hwr:0≤w∧w≤127*q:=by
     rw [←hw]
     exact⟨Int.mul_nonneg (by omega) (by omega),Int.mul_le_mul_of_nonneg_right (by omega) (by omega)⟩
    have hu1:IntKind.u64.wrap (7*(k:Int))=7*(k:Int):=by rw [IntKind.wrap_u64];omega
    have hu2:IntKind.u64.wrap (7*(k:Int)+7)=7*(k:Int)+7:=by rw [IntKind.wrap_u64];omega
    have hs:IntKind.i64.wrap (1*2 ^ (IntKind.u64.wrap (7*(k:Int)+7)).toNat)=128*q:=by rw [hu2,e8,IntKind.wrap_i64];omega
    have hW:IntKind.i64.wrap (bits .and .i64 (b.toNat:Int) 127*2 ^ (IntKind.u64.wrap (7*(k:Int))).toNat)=w:=by
     rw [zp5,hu1,e7,show ((b.toNat:Int) % 128)=u by omega,hw,IntKind.wrap_i64];omega
    have hV:bits .or .i64 n (IntKind.i64.wrap (bits .and .i64 (b.toNat:Int) 127*2 ^ (IntKind.u64.wrap (7*(k:Int))).toNat))=n+w:=by
     rw [hW]
     have e2:(2:Int) ^ (7*k)=q:=by rw [←hq,Int.pow_mul];rfl
     refine zp12 (7*k) n w h0 (by rw [e2];omega) (by omega) hwr.1 ?_ (by omega)
     rw [e2,←hw]
     exact Int.mul_emod_left u q
    have hgu:∀hG1:True,True:=fun _=>trivial
    clear hgu
    repeat' (first|(apply f_wo;first|(apply f_gs;refine n_sk ?_)|(apply f_mv;first|(refine zs1 ?_ ?_<;>intro hG<;>(try cases hG))|refine zt (v:=.c _) ?_)|(apply f_bi;refine zl2 ?_)|(apply zw2;refine zf1 ?_)|(apply zo9;refine zp3 ?_)|(apply zb2;refine zx ?_)|(apply f_pk;refine zr1 (v:=.c _) ?_))|(apply f_w;first|refine zo ?_|refine zc ?_)|refine za fun C=>?_|refine zd ?_)
    all_goals first
     | (exfalso;clear hE;simp only [decide_eq_true_iff,decide_eq_false_iff_not,ge_iff_le] at *;omega)
     | skip
    refine zn (by rfl) (fun hC=>?_) fun hC=>absurd (of_decide_eq_false hC) (by omega)
    repeat' (first|(apply f_wo;first|(apply f_mv;refine zt (v:=.c _) ?_)|(apply zb2;refine zx ?_))|(apply f_w;refine zo ?_)|refine za fun C=>?_|refine zd ?_|refine zg ?_|refine zk ?_)
    refine n_ix (l:=bI bs) (j:=p+k) ?_ (hn:=ze19.symm) (hz:=by omega)
    repeat' (first|(apply f_wo;first|(apply f_mv;refine zt (v:=.c _) ?_)|(apply f_as;refine zu (v:=.c _) ?_)|(apply f_ld;refine zh5 ?_)|(apply zi4;refine zh2 ?_)|(apply f_bb;first|refine zq7 ?_|refine zn15 ?_|refine n_shl ?_)|(apply f_cv;first|refine zv13 ?_|refine zh1 ?_))|(apply f_w;first|refine zo ?_|refine zc ?_)|refine za fun C=>?_|refine zd ?_)
    rw [hV]
    by_cases h128:128≤b.toNat
    ·rw [if_pos h128] at hE
     refine zn (by rfl) (fun hC=>?_) fun hC=>absurd (of_decide_eq_false hC) (by omega)
     repeat' (first|(apply f_wo;first|(apply f_mv;refine zt (v:=.c _) ?_)|(apply f_as;refine zu (v:=.c _) ?_)|(apply zb2;refine zx ?_))|(apply f_w;first|refine zo ?_|refine zc ?_)|refine za fun C=>?_|refine zw ?_)
     refine⟨f,(k+1,n+w),by omega,⟨hE,by dsimp only;omega,by dsimp only;omega,by dsimp only;rw [Int.pow_succ,hq];omega⟩,?_⟩
     (refine zk1 _ _ rfl rfl ?_ ?_<;>(repeat' (first|exact TmOk.nil|exact RwOk.nil|refine TmOk.cons ?_ ?_|refine RwOk.cons ?_ ?_|rfl|(refine rnV_id' rfl ?_;exact byc)|(refine zo1 ?_;first|rfl|omega|(rw [za1 (by omega) (by omega)];omega))|(refine zv rfl ?_;exact byc)|exact zg2 rfl rfl|(refine zp1 (by rfl) (by rfl) ?_ ?_<;>exact byc)|(refine rw_rn' rfl rfl ?_;simp;done))))
    ·rw [if_neg h128] at hE
     refine zn (by rfl) (fun hC=>absurd (of_decide_eq_true hC) (by omega)) fun hC=>?_
     by_cases h64:64≤b.toNat
     ·rw [if_pos h64] at hE
      have cw:=zf7 (n:=n+w-128*q) (by omega)
      have cp:=zq12 (bs:=[]) (n:=n+w-128*q) (by omega) (by decide)
      repeat' (first|(apply f_wo;first|(apply f_mv;refine zt (v:=.c _) ?_)|(apply zi4;refine zh2 ?_))|(apply f_w;first|refine zo ?_|refine zc ?_)|refine za fun C=>?_|refine zd ?_|refine zk ?_)
      refine zn (by rfl) (fun hC=>?_) fun hC=>absurd (of_decide_eq_false hC) (by omega)
      repeat' (first|(apply f_wo;first|(apply f_mv;refine zt (v:=.c _) ?_)|(apply f_as;refine zu (v:=.c _) ?_)|(apply zb2;refine zx ?_)|(apply f_bb;first|refine zh3 ?_|refine zq7 ?_|refine n_shl ?_)|(apply f_cv;refine zh1 ?_))|(apply f_w;first|refine zo ?_|refine zc ?_)|refine za fun C=>?_|refine zd ?_)
      rw [hs]
      cases hok:okSg (n+w-128*q) k with
      | true =>
       rw [hok,if_pos rfl] at hE
       rw [←hE]
       simp only [okSg,Bool.and_eq_true,beq_iff_eq] at hok
       obtain⟨k1,k2⟩:=hok
       rw [k1] at cw
       repeat' (first|(apply f_wo;first|(apply f_gs;refine n_sk ?_)|(apply f_mv;first|(refine zs1 ?_ ?_<;>intro hG<;>(try cases hG))|refine zt (v:=.c _) ?_)|(apply f_ca;first|refine zu1 cw ?_|refine zh19 cp ?_)|(apply f_bi;refine zx5 ?_)|(apply zh4;refine zs2 ?_)|(apply zb2;refine zx ?_)|(apply f_pk;refine zr1 (v:=.c _) ?_)|refine n_bs ?_)|(apply f_w;first|refine zo ?_|refine zc ?_))
       all_goals first
        | (exfalso;simp at hG;done)
        | skip
       refine zn (by rfl) (fun hC=>by exfalso;simp [k2] at hC) fun hC=>?_
       repeat' (first|(apply f_wo;first|(apply f_mv;refine zt (v:=.c _) ?_)|(apply f_as;refine zu (v:=.c _) ?_)|(apply zb2;refine zx ?_))|(apply f_w;first|refine zo ?_|refine zc ?_)|refine za fun C=>?_|refine zd ?_|refine zk ?_)
       refine zi ?_;refine ret0 rfl (zc2 (zj zy (zj zy (zj zy zj1)))) ⟨?_,rfl⟩
       rfl
      | false =>
       rw [hok,if_neg (by decide)] at hE
       rw [←hE]
       repeat' (first|(apply f_wo;first|(apply f_gs;refine n_sk ?_)|(apply f_mv;first|(refine zs1 ?_ ?_<;>intro hG<;>(try cases hG))|refine zt (v:=.c _) ?_)|(apply f_ca;first|refine zu1 cw ?_|refine zh19 cp ?_)|(apply f_bi;refine zx5 ?_)|(apply zh4;refine zs2 ?_)|(apply zb2;refine zx ?_)|(apply f_pk;refine zr1 (v:=.c _) ?_)|refine n_bs ?_)|(apply f_w;first|refine zo ?_|refine zc ?_))
       ·refine zq rfl ?_
        repeat' (first|(apply f_wo;(apply f_as;refine zu (v:=.c _) ?_))|(apply f_w;first|refine zo ?_|refine zc ?_)|refine za fun C=>?_|refine zd ?_)
        refine zi ?_;refine ret0 rfl (zc2 (zj zy (zj zy (zj zy zj1)))) ⟨?_,rfl⟩
        rfl
       ·refine zn (by rfl) (fun hC=>?_) fun hC=>?_
        ·repeat' (first|(apply f_wo;(apply f_as;refine zu (v:=.c _) ?_))|(apply f_w;first|refine zo ?_|refine zc ?_)|refine za fun C=>?_|refine zd ?_)
         refine zi ?_;refine ret0 rfl (zc2 (zj zy (zj zy (zj zy zj1)))) ⟨?_,rfl⟩
         rfl
        ·exfalso
         simp only [okSg,Bool.and_eq_false_iff,beq_eq_false_iff_ne] at hok
         simp only [bne_eq_false_iff_eq,List.nil_append] at hG hC
         omega
     ·rw [if_neg h64,Int.sub_zero] at hE
      have cw:=zf7 (n:=n+w) (by omega)
      have cp:=zq12 (bs:=[]) (n:=n+w) (by omega) (by decide)
      repeat' (first|(apply f_wo;first|(apply f_mv;refine zt (v:=.c _) ?_)|(apply zi4;refine zh2 ?_))|(apply f_w;first|refine zo ?_|refine zc ?_)|refine za fun C=>?_|refine zd ?_|refine zk ?_)
      refine zn (by rfl) (fun hC=>absurd (of_decide_eq_true hC) (by omega)) fun hC=>?_
      cases hok:okSg (n+w) k with
      | true =>
       rw [hok,if_pos rfl] at hE
       rw [←hE]
       simp only [okSg,Bool.and_eq_true,beq_iff_eq] at hok
       obtain⟨k1,k2⟩:=hok
       rw [k1] at cw
       repeat' (first|(apply f_wo;first|(apply f_gs;refine n_sk ?_)|(apply f_mv;first|(refine zs1 ?_ ?_<;>intro hG<;>(try cases hG))|refine zt (v:=.c _) ?_)|(apply f_ca;first|refine zu1 cw ?_|refine zh19 cp ?_)|(apply f_bi;refine zx5 ?_)|(apply zh4;refine zs2 ?_)|(apply zb2;refine zx ?_)|(apply f_pk;refine zr1 (v:=.c _) ?_)|refine n_bs ?_)|(apply f_w;first|refine zo ?_|refine zc ?_)|refine za fun C=>?_|refine zd ?_|refine zk ?_)
       all_goals first
        | (exfalso;simp at hG;done)
        | skip
       refine zn (by rfl) (fun hC=>by exfalso;simp [k2] at hC) fun hC=>?_
       repeat' (first|(apply f_wo;first|(apply f_mv;refine zt (v:=.c _) ?_)|(apply f_as;refine zu (v:=.c _) ?_)|(apply zb2;refine zx ?_))|(apply f_w;first|refine zo ?_|refine zc ?_)|refine za fun C=>?_|refine zd ?_|refine zk ?_)
       refine zi ?_;refine ret0 rfl (zc2 (zj zy (zj zy (zj zy zj1)))) ⟨?_,rfl⟩
       rfl
      | false =>
       rw [hok,if_neg (by decide)] at hE
       rw [←hE]
       repeat' (first|(apply f_wo;first|(apply f_gs;refine n_sk ?_)|(apply f_mv;first|(refine zs1 ?_ ?_<;>intro hG<;>(try cases hG))|refine zt (v:=.c _) ?_)|(apply f_ca;first|refine zu1 cw ?_|refine zh19 cp ?_)|(apply f_bi;refine zx5 ?_)|(apply zh4;refine zs2 ?_)|(apply zb2;refine zx ?_)|(apply f_pk;refine zr1 (v:=.c _) ?_)|refine n_bs ?_)|(apply f_w;first|refine zo ?_|refine zc ?_)|refine za fun C=>?_|refine zd ?_|refine zk ?_)
       ·refine zq rfl ?_
        repeat' (first|(apply f_wo;(apply f_as;refine zu (v:=.c _) ?_))|(apply f_w;first|refine zo ?_|refine zc ?_)|refine za fun C=>?_|refine zd ?_)
        refine zi ?_;refine ret0 rfl (zc2 (zj zy (zj zy (zj zy zj1)))) ⟨?_,rfl⟩
        rfl
       ·refine zn (by rfl) (fun hC=>?_) fun hC=>?_
        ·repeat' (first|(apply f_wo;(apply f_as;refine zu (v:=.c _) ?_))|(apply f_w;first|refine zo ?_|refine zc ?_)|refine za fun C=>?_|refine zd ?_)
         refine zi ?_;refine ret0 rfl (zc2 (zj zy (zj zy (zj zy zj1)))) ⟨?_,rfl⟩
         rfl
        ·exfalso
         simp only [okSg,Bool.and_eq_false_iff,beq_eq_false_iff_ne] at hok
         simp only [bne_eq_false_iff_eq,List.nil_append] at hG hC
         omega
 ·rw [zj19 hp]
  refine zi1 Tryz.func183 rfl rfl ?_
  repeat' (first|(apply f_wo;(apply f_as;refine zu (v:=.c _) ?_))|(apply f_w;first|refine zo ?_|refine zc ?_)|refine za fun C=>?_|refine zd ?_|refine zg ?_)
  refine zt1 (fun d:Nat=>⟨tmsF [(0,.c (.ro bs.length 1 (acL (bI bs)))),(1,.c (.v (.int .i64 at_))),(7,.c (.v (.int .i64 0))),(8,.c (.v (.int .i64 0)))],hpsF [],0,[],76⟩)
   (fun N d=>N=0) 0 0 rfl ?_ ?_
  ·(refine zk1 _ _ rfl rfl ?_ ?_<;>(repeat' (first|exact TmOk.nil|exact RwOk.nil|refine TmOk.cons ?_ ?_|refine RwOk.cons ?_ ?_|rfl|(refine rnV_id' rfl ?_;exact byc)|(refine zo1 ?_;first|rfl|omega|(rw [za1 (by omega) (by omega)];omega))|(refine zv rfl ?_;exact byc)|exact zg2 rfl rfl|(refine zp1 (by rfl) (by rfl) ?_ ?_<;>exact byc)|(refine rw_rn' rfl rfl ?_;simp;done))))
  rintro N d hN
  repeat' (first|(apply f_wo;first|(apply f_gs;refine n_sk ?_)|(apply f_mv;first|(refine zs1 ?_ ?_<;>intro hG<;>(try cases hG))|refine zt (v:=.c _) ?_)|(apply f_bi;refine zl2 ?_)|(apply zw2;refine zf1 ?_)|(apply zo9;refine zp3 ?_)|(apply zb2;refine zx ?_)|(apply f_pk;refine zr1 (v:=.c _) ?_))|(apply f_w;first|refine zo ?_|refine zc ?_)|refine za fun C=>?_|refine zd ?_)
  all_goals first
   | (exfalso;simp only [decide_eq_true_iff,decide_eq_false_iff_not,ge_iff_le] at *;omega)
   | skip
  all_goals first
   | (refine zr rfl ?_)
   | (exfalso;simp only [decide_eq_true_iff,decide_eq_false_iff_not,ge_iff_le] at *;omega)
  all_goals
   repeat' (first|(apply f_wo;(apply f_as;refine zu (v:=.c _) ?_))|(apply f_w;first|refine zo ?_|refine zc ?_)|refine za fun C=>?_|refine zd ?_|refine zw ?_)
   refine zi ?_;refine ret0 rfl (zc2 (zj zy (zj zy (zj zy zj1)))) ⟨?_,rfl⟩
   rfl
end Go.Proofs.YtghljnfbbaklnaaGreat
