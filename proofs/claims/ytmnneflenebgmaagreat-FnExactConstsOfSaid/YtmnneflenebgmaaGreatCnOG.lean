/- T -/
import Derived.Laws.Strings3
import Derived.Laws.DeepStrings4
import Derived.Test.YtmnneflenebgmaaGreatCnOF
set_option maxHeartbeats 0
set_option maxRecDepth 100000
namespace Go.Proofs.YtmnneflenebgmaaGreat
open Go.RowKit Go.Proofs.Tryz
def bAt (s:ByteArray)(j:Nat):Nat:=(s.data[j]?.getD 0).toNat
theorem fu (s:ByteArray)(j:Nat):bAt s j<256:=UInt8.toNat_lt _
theorem zaQ {s:ByteArray}{j:Nat}(h:j<s.size):(s[j]'h).toNat=bAt s j:=by
 unfold bAt
 have h':j<s.data.size:=h
 rw [Array.getElem?_eq_getElem h']
 rfl
def eV (s:ByteArray)(a b:Nat):ByteArray:=s.extract a b
theorem nM {s:ByteArray}{a b:Nat}(h1:a≤b)(h2:b≤s.size):(eV s a b).size=b-a:=by
 unfold eV
 rw [ByteArray.size_extract]
 omega
theorem zbQ {s:ByteArray}{a b j:Nat}(h2:b≤s.size)(hj:j<b-a):bAt (eV s a b) j=bAt s (a+j):=by
 unfold bAt eV
 rw [ByteArray.data_extract,Array.getElem?_extract]
 have:b≤s.data.size:=h2
 rw [if_pos omq]
section
variable {ops:Array Oper}{Q:Exit→Act→World→Prop}{C:Ctx}{H H':List (Nat×Oper×Inf)}{i:Nat}{r:List Nat}{o:Oper}{dr:Bool}
variable {tm:Nat→AV}{hp:Nat→Option Row}{gn L:Nat}{us:List Nat}
theorem zd {P:Program}{T:TypeId}{xo io:Operand}{s:ByteArray}{kd:IntKind}{z:Int}{j:Nat}(ho:o.op=.index T xo io)(hT:P.underlying T=some .string)(hz:z=(j:Int))(hj:j<s.size)(ev:Operand→Value)(w:World)(hx:ev xo=.string s)(hi:ev io=.int kd z):(execOp ev o).run P w=.ok (.value (.int .u8 (bAt s j))) w:=by
 subst hz
 unfold execOp
 rw [ho]
 simp only [hx,hi]
 have h:=run_index_string (P:=P) w T s kd (j:Int) hT
 rw [dif_pos ⟨omq,omq⟩] at h
 simp [Sem.run_bind,h,zaQ hj]
theorem x_six {t j:Nat}{T:TypeId}{xo io:Operand}{s:ByteArray}{kd:IntKind}{z:Int}(h:Walk prog ops Q C dr (bP dr (i,o,⟨fpO (AS.ev ⟨tm,hp,gn,us,L⟩) o,[],[],.c (.v (.int .u8 (bAt s j)))⟩) H) r ⟨upd tm t (.c (.v (.int .u8 (bAt s j)))),hp,gn,us,L⟩)
 (hop:ops[i]? = some o:=by exact rfl) (ho:o.op=.index T xo io:=by exact rfl) (hT:(prog).underlying T=some .string:=by exact underlying9) (hd:o.dst=some t:=by exact rfl) (ht:Nat.blt t L=true:=by exact rfl) (hg:gw ops tm o=some true:=by exact rfl)
 (hx:AS.ev ⟨tm,hp,gn,us,L⟩ xo=.c (.v (.string s)):=by exact rfl) (hi:AS.ev ⟨tm,hp,gn,us,L⟩ io=.c (.v (.int kd z)):=by exact rfl) (hz:z=(j:Int):=by first|assumption|rfl) (hj:j<s.size:=by first|assumption|omega|(simp only [beq_iff_eq,decide_eq_true_iff] at *;omega))
 (hc:chk dr ops i o ⟨fpO (AS.ev ⟨tm,hp,gn,us,L⟩) o,[],[],.c (.v (.int .u8 (bAt s j)))⟩ H=true:=by first|(with_reducible exact bB)|kernel_rfl):Walk prog ops Q C dr H (i :: r) ⟨tm,hp,gn,us,L⟩:=by
 refine⟨o,_,hop,iR (y:=.int .u8 (bAt s j)) hop hg rfl fun ev w he=>?_,fun n hn=>absurd hn List.not_mem_nil,eB hc,cY ?_⟩
 ·have e:o.op.operands=#[xo,io]:=by rw [ho];rfl
  exact zd ho hT hz hj ev w (he xo (by rw [e];simp) _ (by rw [hx];rfl)) (he io (by rw [e];simp) _ (by rw [hi];rfl))
 ·show Walk prog ops Q C dr _ r (AS.put _ o.dst _)
  rw [hd,eN (by exact em ht)];exact h
theorem ze {P:Program}{T:TypeId}{xo lo hi:Operand}{s:ByteArray}{k1 k2:IntKind}{y z:Int}{a b:Nat}(ho:o.op=.slice T xo (some lo) (some hi) none)(hT:P.underlying T=some .string)(hy:y=(a:Int))(hz:z=(b:Int))(h1:a≤b)(h2:b≤s.size)(ev:Operand→Value)(w:World)(hx:ev xo=.string s)(hl:ev lo=.int k1 y)(hh:ev hi=.int k2 z):(execOp ev o).run P w=.ok (.value (.string (eV s a b))) w:=by
 subst hy hz
 unfold execOp
 rw [ho]
 have h:=run_slice_string (P:=P) w T s k1 k2 (a:Int) (b:Int) hT omq omq omq
 simp only [Int.toNat_natCast] at h
 simp [Sem.run_bind,hx,hl,hh,run_sliceAt_string w _ _ _ _ _ hT,h,eV]
theorem zf {P:Program}{T:TypeId}{xo lo:Operand}{s:ByteArray}{k1:IntKind}{y:Int}{a:Nat}(ho:o.op=.slice T xo (some lo) none none)(hT:P.underlying T=some .string)(hy:y=(a:Int))(h1:a≤s.size)(ev:Operand→Value)(w:World)(hx:ev xo=.string s)(hl:ev lo=.int k1 y):(execOp ev o).run P w=.ok (.value (.string (eV s a s.size))) w:=by
 subst hy
 unfold execOp
 rw [ho]
 have h:=run_slice_string_l (P:=P) w T s hT k1 (a:Int) omq omq
 simp only [Int.toNat_natCast] at h
 simp [Sem.run_bind,hx,hl,run_sliceAt_string w _ _ _ _ _ hT,h,eV]
theorem x_ssl {t a b:Nat}{T:TypeId}{xo lo hi:Operand}{s:ByteArray}{k1 k2:IntKind}{y z:Int}(h:Walk prog ops Q C dr (bP dr (i,o,⟨fpO (AS.ev ⟨tm,hp,gn,us,L⟩) o,[],[],.c (.v (.string (eV s a b)))⟩) H) r ⟨upd tm t (.c (.v (.string (eV s a b)))),hp,gn,us,L⟩)
 (hop:ops[i]? = some o:=by exact rfl) (ho:o.op=.slice T xo (some lo) (some hi) none:=by exact rfl) (hT:(prog).underlying T=some .string:=by exact underlying9) (hd:o.dst=some t:=by exact rfl) (ht:Nat.blt t L=true:=by exact rfl) (hg:gw ops tm o=some true:=by exact rfl)
 (hx:AS.ev ⟨tm,hp,gn,us,L⟩ xo=.c (.v (.string s)):=by exact rfl) (hl:AS.ev ⟨tm,hp,gn,us,L⟩ lo=.c (.v (.int k1 y)):=by exact rfl) (hh:AS.ev ⟨tm,hp,gn,us,L⟩ hi=.c (.v (.int k2 z)):=by exact rfl) (hy:y=(a:Int):=by first|assumption|rfl) (hz:z=(b:Int):=by first|assumption|rfl) (h1:a≤b:=by first|assumption|omega) (h2:b≤s.size:=by first|assumption|omega)
 (hc:chk dr ops i o ⟨fpO (AS.ev ⟨tm,hp,gn,us,L⟩) o,[],[],.c (.v (.string (eV s a b)))⟩ H=true:=by first|(with_reducible exact bB)|kernel_rfl):Walk prog ops Q C dr H (i :: r) ⟨tm,hp,gn,us,L⟩:=by
 refine⟨o,_,hop,iR (y:=.string (eV s a b)) hop hg rfl fun ev w he=>?_,fun n hn=>absurd hn List.not_mem_nil,eB hc,cY ?_⟩
 ·have e:o.op.operands.toList=[xo,lo,hi]:=by rw [ho];rfl
  have e':∀q∈[xo,lo,hi],q∈o.op.operands:=fun q hq=>by rw [←e] at hq;exact Array.mem_toList_iff.1 hq
  exact ze ho hT hy hz h1 h2 ev w (he xo (e' _ (by simp)) _ (by rw [hx];rfl)) (he lo (e' _ (by simp)) _ (by rw [hl];rfl)) (he hi (e' _ (by simp)) _ (by rw [hh];rfl))
 ·show Walk prog ops Q C dr _ r (AS.put _ o.dst _)
  rw [hd,eN (by exact em ht)];exact h
theorem x_ssf {t a:Nat}{T:TypeId}{xo lo:Operand}{s:ByteArray}{k1:IntKind}{y:Int}(h:Walk prog ops Q C dr (bP dr (i,o,⟨fpO (AS.ev ⟨tm,hp,gn,us,L⟩) o,[],[],.c (.v (.string (eV s a s.size)))⟩) H) r ⟨upd tm t (.c (.v (.string (eV s a s.size)))),hp,gn,us,L⟩)
 (hop:ops[i]? = some o:=by exact rfl) (ho:o.op=.slice T xo (some lo) none none:=by exact rfl) (hT:(prog).underlying T=some .string:=by exact underlying9) (hd:o.dst=some t:=by exact rfl) (ht:Nat.blt t L=true:=by exact rfl) (hg:gw ops tm o=some true:=by exact rfl)
 (hx:AS.ev ⟨tm,hp,gn,us,L⟩ xo=.c (.v (.string s)):=by exact rfl) (hl:AS.ev ⟨tm,hp,gn,us,L⟩ lo=.c (.v (.int k1 y)):=by exact rfl) (hy:y=(a:Int):=by first|assumption|rfl) (h1:a≤s.size:=by first|assumption|omega)
 (hc:chk dr ops i o ⟨fpO (AS.ev ⟨tm,hp,gn,us,L⟩) o,[],[],.c (.v (.string (eV s a s.size)))⟩ H=true:=by first|(with_reducible exact bB)|kernel_rfl):Walk prog ops Q C dr H (i :: r) ⟨tm,hp,gn,us,L⟩:=by
 refine⟨o,_,hop,iR (y:=.string (eV s a s.size)) hop hg rfl fun ev w he=>?_,fun n hn=>absurd hn List.not_mem_nil,eB hc,cY ?_⟩
 ·have e:o.op.operands.toList=[xo,lo]:=by rw [ho];rfl
  have e':∀q∈[xo,lo],q∈o.op.operands:=fun q hq=>by rw [←e] at hq;exact Array.mem_toList_iff.1 hq
  exact zf ho hT hy h1 ev w (he xo (e' _ (by simp)) _ (by rw [hx];rfl)) (he lo (e' _ (by simp)) _ (by rw [hl];rfl))
 ·show Walk prog ops Q C dr _ r (AS.put _ o.dst _)
  rw [hd,eN (by exact em ht)];exact h
def ariB:Op→Bool
 | .binOp .add ..=>true
 | .binOp .sub ..=>true
 | .binOp .mul ..=>true
 | .convert ..=>true
 | _=>false
theorem pf {t:Nat}{z:Int}(h:Walk prog ops Q C dr (bP dr (i,o,⟨fpO (AS.ev ⟨tm,hp,gn,us,L⟩) o,[],[],.c (.v (.int .i64 z))⟩) H) r ⟨upd tm t (.c (.v (.int .i64 z))),hp,gn,us,L⟩)
 (hop:ops[i]? = some o:=by exact rfl) (hb:ariB o.op=true:=by exact rfl) (hd:o.dst=some t:=by exact rfl) (ht:Nat.blt t L=true:=by exact rfl) (hg:gw ops tm o=some true:=by exact rfl)
 (he:EffD prog o (AS.ev ⟨tm,hp,gn,us,L⟩) hp 0=some (.c (.v (.int .i64 (IntKind.i64.wrap z))),.nop):=by rfl) (hz : -9223372036854775808≤z∧z≤9223372036854775807:=by omega)
 (hc:chk dr ops i o ⟨fpO (AS.ev ⟨tm,hp,gn,us,L⟩) o,[],[],.c (.v (.int .i64 z))⟩ H=true:=by first|(with_reducible exact bB)|kernel_rfl):Walk prog ops Q C dr H (i :: r) ⟨tm,hp,gn,us,L⟩ :=
 w_eq hop hd ht hg he (by rw [show IntKind.i64.wrap z=z by rw [IntKind.wrap_i64];omega]) hc h
theorem xh {P:Program}{s d:TypeId}{xo:Operand}{k:IntKind}{c:Nat}(ho:o.op=.convert s d xo)(hs:P.underlying s=some (.int k))(hd:P.underlying d=some .string)(hc:c<128)(ev:Operand→Value)(w:World)(hx:ev xo=.int k (c:Int)):(execOp ev o).run P w=.ok (.value (.string ⟨#[UInt8.ofNat c]⟩)) w:=by
 unfold execOp
 rw [ho]
 have hv:Utf8.valid (c:Int)=true:=by
  unfold Utf8.valid
  simp
  omega
 simp [Sem.run_bind,hx,convert,run_underlying hs,run_underlying hd,Conv.intToString,Utf8.encode,hv,show c<128 from hc]
theorem zk3 {t c:Nat}{s d:TypeId}{xo:Operand}{k:IntKind}(h:Walk prog ops Q C dr (bP dr (i,o,⟨fpO (AS.ev ⟨tm,hp,gn,us,L⟩) o,[],[],.c (.v (.string ⟨#[UInt8.ofNat c]⟩))⟩) H) r ⟨upd tm t (.c (.v (.string ⟨#[UInt8.ofNat c]⟩))),hp,gn,us,L⟩)
 (hop:ops[i]? = some o:=by exact rfl) (ho:o.op=.convert s d xo:=by exact rfl) (hd:o.dst=some t:=by exact rfl) (ht:Nat.blt t L=true:=by exact rfl) (hg:gw ops tm o=some true:=by exact rfl)
 (hx:AS.ev ⟨tm,hp,gn,us,L⟩ xo=.c (.v (.int k (c:Int))):=by exact rfl) (hs:(prog).underlying s=some (.int k):=by kernel_rfl) (hdd:(prog).underlying d=some .string:=by kernel_rfl) (hcl:c<128:=by first|assumption|omega)
 (hc:chk dr ops i o ⟨fpO (AS.ev ⟨tm,hp,gn,us,L⟩) o,[],[],.c (.v (.string ⟨#[UInt8.ofNat c]⟩))⟩ H=true:=by first|(with_reducible exact bB)|kernel_rfl):Walk prog ops Q C dr H (i :: r) ⟨tm,hp,gn,us,L⟩:=by
 refine⟨o,_,hop,iR (y:=.string ⟨#[UInt8.ofNat c]⟩) hop hg rfl fun ev w he=>?_,fun n hn=>absurd hn List.not_mem_nil,eB hc,cY ?_⟩
 ·have e:o.op.operands=#[xo]:=by rw [ho];rfl
  exact xh ho hs hdd hcl ev w (he xo (by rw [e];simp) _ (by rw [hx];rfl))
 ·show Walk prog ops Q C dr _ r (AS.put _ o.dst _)
  rw [hd,eN (by exact em ht)];exact h
theorem xi {t:Nat}{c:Call}{fv:Operand}{f:FuncId}{caps:List AC}{args ins:List AV}{par:List AC}{rows:List (List AC)}{res:AV}{nv:AV}{nr:List (Nat×Row)}(lr:Nat)(hctr:Ctr prog f ins [par] res rows)(h:Walk prog ops Q C dr (bP dr (i,o,cZ ⟨tm,hp,gn,us,L⟩ (args.flatMap snV) [lr] [] (100*(t+1)) res rows) H) r ⟨upd tm t nv,fG hp (eG hp [lr] rows++[]++nr.map (fun p=>(p.1,some p.2))),gn,nr.map (·.1)++us,L⟩)(hop:ops[i]? = some o:=by exact rfl)(hoc:o.op=.call c:=by exact rfl)(hcal:c.callee=.value fv:=by exact rfl)(hd:o.dst=some t:=by exact rfl)(ht:Nat.blt t L=true:=by exact rfl)(hg:gw ops tm o=some true:=by exact rfl)(hfv:AS.ev ⟨tm,hp,gn,us,L⟩ fv=.c (.fn f caps):=by exact rfl)(hargs:cD ⟨tm,hp,gn,us,L⟩ c caps=args:=by exact rfl)(hcv:args.map (cvV hp [lr])=ins:=by exact yK)(hl:ij hp [lr]=some [par]:=by exact cW (by rfl) (by first|rfl|(simp [rJ,bf,clo,bp,aH,bq,ba,aZ];done)))(hRD:((args.flatMap snV).all fun z=>![lr].contains z)=true:=by exact rfl)(hmm:(dS res=true∧∀c∈rows,dm c=true)∨((args.flatMap snV).all fun z=>([]:List Nat).contains z)=true:=by first|exact .inr rfl|exact .inl ⟨by (first|rfl|exact cg _|(simp [dS,eM,dm,j6,cg,de,df];done)),rofr_one (by (first|rfl|exact cg _|(simp [dS,eM,dm,j6,cg,de,df];done)))⟩)(hopn:opV (100*(t+1)) res=(nv,nr):=by exact rfl)(hf:(nr.all fun p=>Nat.ble gn p.1&&!us.contains p.1)=true:=by exact rfl)(hc:chk dr ops i o (cZ ⟨tm,hp,gn,us,L⟩ (args.flatMap snV) [lr] [] (100*(t+1)) res rows) H=true:=by first|(with_reducible exact bB)|kernel_rfl):Walk prog ops Q C dr H (i :: r) ⟨tm,hp,gn,us,L⟩ :=
 ua (100*(t+1)) [lr] [] hop hoc hcal hd ht hg hfv hargs hl (by rw [hcv];exact hctr) hRD rfl hmm hopn hf hc h
end
section
variable {P:Program}{Q:Exit→AS→Prop}{σ:AS}
theorem qC {tm:Nat→AV}{t:Nat}{x:AV}(h:tm t=x):upd tm t x=tm:=by
 funext j
 by_cases e:j=t
 ·subst e;rw [aX,h]
 ·rw [bh _ _ e]
theorem aj {tm:Nat→AV}{hp:Nat→Option Row}{gn L:Nat}{us:List Nat}{x y:Code}{t:Nat}{b:Bool}(hc:tm t=.c (.v (.bool b)))(h1:b=true→AWp P x Q ⟨upd tm t (.c (.v (.bool true))),hp,gn,us,L⟩)(h2:b=false→AWp P y Q ⟨upd tm t (.c (.v (.bool false))),hp,gn,us,L⟩):AWp P (.cond (.tmp t) x y) Q ⟨tm,hp,gn,us,L⟩:=by
 refine cy (t:=b) hc (fun hb=>?_) fun hb=>?_
 ·have:=h1 hb
  rwa [qC (by rw [hc,hb])] at this
 ·have:=h2 hb
  rwa [qC (by rw [hc,hb])] at this
theorem qD {x y:Code}(τ:AS)(h:AWp P x (wU (fun σ'=>Gh σ' τ) Q) σ)(k:AWp P y Q τ):AWp P (.seq x y) Q σ :=
 ae (wT h fun e σ' he=>by
  cases e with
  | normal=>exact bH he k
  | exit id=>exact he
  | goto l=>exact he
  | ret=>exact he
  | panic c=>exact he
  | outgrown=>exact he)
theorem jL {id:Nat}{ops:Array Oper}{dr:Bool}{y:Code}(h:AWp P (.region id ops dr) (wU (AWp P y Q) Q) σ):AWp P (.seq (.region id ops dr) y) Q σ:=ae h
end
theorem zl3 {ρ:Nat→Option Nat}{b b':Bool}(h:b=b'):rnV ρ (.c (.v (.bool b)))=some (.c (.v (.bool b'))):=by subst h;rfl
theorem mw {ρ:Nat→Option Nat}{x:AV}{b b':Bool}(hx:x=.c (.v (.bool b)))(h:Hid (b=b')):rnV ρ x=some (.c (.v (.bool b'))):=by subst hx;exact zl3 h.out
end Go.Proofs.YtmnneflenebgmaaGreat
