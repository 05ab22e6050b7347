/- PutModule: the bytes, in plain words. -/
import Derived.Test.YtghljnfbbaklnaaGreatPutModuleAP
namespace Go.Proofs.YtghljnfbbaklnaaGreat
open Go.RowKit
set_option maxRecDepth 100000
theorem bytC_ld (bs:List UInt8):(bytC bs).map ld=bytC bs:=by
 simp only [bytC,List.map_map]
 exact List.map_congr_left fun b _=>rfl
def putVE:E→List UInt8
 | .agg [.int _ k,.int _ n,.str s]=>putV k n s
 | _=>[]
def putTE (e:E):List UInt8:=putT (strB e)
def putIE:E→List UInt8
 | .agg [.int _ o,.int _ n]=>putIns o n
 | _=>[]
def putFE:E→List UInt8
 | .agg [.int _ p,.lst _ _ _ _ code]=>putU p++putU (code.length:Int)++code.flatMap putIE
 | _=>[]
theorem zh17 (f:E→List UInt8)(o:List UInt8)(l:List E)(B:Nat)(hB:∀x∈l,(f x).length≤B):∃A:Nat→List UInt8,A 0=o∧(∀k x,l[k]? = some x→A k++f x=A (k+1))∧A l.length=o++l.flatMap f∧∀k,(A k).length≤o.length+B*l.length:=by
 refine⟨fun k=>o++(l.take k).flatMap f,by simp,fun k x hx=>?_,by simp,fun k=>?_⟩
 ·dsimp only;rw [List.take_add_one,hx];simp
 ·have:∀m:List E,(∀x∈m,(f x).length≤B)→(m.flatMap f).length≤B*m.length:=by
   intro m
   induction m with
   | nil=>intro _;simp
   | cons x r ih =>
    intro h
    have h1:=h x (by simp)
    have h2:=ih fun y hy=>h y (by simp [hy])
    simp only [List.flatMap_cons,List.length_append,List.length_cons,Nat.mul_add]
    omega
  have h1:=this (l.take k) fun x hx=>hB x (List.mem_of_mem_take hx)
  have h2:B*(l.take k).length≤B*l.length:=Nat.mul_le_mul_left _ (by rw [List.length_take];omega)
  simp only [List.length_append]
  omega
theorem putV_len {k n:Int}{s:ByteArray}:(putV k n s).length≤12+s.size:=by
 have h1:=zr3 k
 have h2:=putS_len n
 have h3:=zr3 (s.size:Int)
 unfold putV
 split
 ·simp only [List.length_append];omega
 ·split
  ·simp only [putT,List.length_append,zf9];omega
  ·simp only [List.length_append,List.length_nil];omega
theorem ze15 {a b:Int}{s:ByteArray}(h:valOk a b s=true):s.size≤200:=by
 unfold valOk at h
 have hz:s.toList.isEmpty=true→s.size≤200:=fun he=>by
  have:=zn8 (s:=s) (by simpa using he);rw [this];decide
 split at h
 ·simp only [Bool.and_eq_true] at h;exact hz h.2
 ·split at h
  ·simp only [Bool.and_eq_true] at h;exact hz h.2
  ·split at h
   ·simp only [Bool.and_eq_true,decide_eq_true_iff] at h;exact h.2
   ·cases h
theorem zf15 {x:E}(h:valE x=true):(putVE x).length≤212:=by
 unfold valE at h
 split at h
 ·rename_i a k2 b s
  have h2:=putV_len (k:=a) (n:=b) (s:=s)
  have h3:=ze15 h
  show (putV a b s).length≤212
  omega
 ·cases h
theorem zs9 {x:E}(h:rexNE x=true):(putTE x).length≤206∧(strB x).size≤200:=by
 unfold rexNE rexN at h
 simp only [Bool.and_eq_true,decide_eq_true_iff] at h
 have h3:=zr3 ((strB x).size:Int)
 refine⟨?_,h.2⟩
 simp only [putTE,putT,List.length_append,zf9]
 omega
theorem zt9 (x:E):(putIE x).length≤12:=by
 unfold putIE
 split
 ·rename_i o k2 n
  have h1:=zr3 o
  have h2:=zr3 n
  unfold putIns
  rw [List.length_append]
  split
  ·omega
  ·simp only [List.length_nil];omega
 ·simp
theorem zg15 {f:E→List UInt8}{B:Nat}:∀m:List E,(∀x∈m,(f x).length≤B)→(m.flatMap f).length≤B*m.length:=by
 intro m
 induction m with
 | nil=>intro _;simp
 | cons x r ih =>
  intro h
  have h1:=h x (by simp)
  have h2:=ih fun y hy=>h y (by simp [hy])
  simp only [List.flatMap_cons,List.length_append,List.length_cons,Nat.mul_add]
  omega
theorem zf8:∀{l:List E} {n i k:Nat} {x:E},fnsOk n i l=true→l[k]? = some x→fnOkE n (i+k) x=true
 | [],n,i,k,x,h,hx=>by simp at hx
 | f :: r,n,i,k,x,h,hx=>by
  unfold fnsOk at h
  simp only [Bool.and_eq_true] at h
  cases k with
  | zero=>simp at hx;subst hx;exact h.1
  | succ k =>
   have:=zf8 (k:=k) h.2 (by simpa using hx)
   rw [show i+(k+1)=i+1+k by omega];exact this
theorem zq12 {n i:Nat}{p:Int}{k:Nat}{T:TypeId}{A:Option Addr}{c:Nat}{code:List E}(h:fnOkE n i (.agg [.int .i64 p,.lst k T A c code])=true):code.length≤3000∧1≤code.length:=by
 unfold fnOkE at h
 simp only [Bool.and_eq_true,inR,decide_eq_true_iff] at h
 omega
def pmL (l0 l1:List E)(x2 x3:Int)(l4:List E):List UInt8 :=
 ((((((((putU 97++putU (l0.length:Int))++l0.flatMap putVE)++putU (l1.length:Int))++l1.flatMap putTE)++putU x2)++putU x3)++putU (l4.length:Int))++l4.flatMap putFE)
def pmE (e:E):List UInt8:=if modOkE e then (match e with
 | .agg [.lst _ _ _ _ l0,.lst _ _ _ _ l1,.int _ x2,.int _ x3,.lst _ _ _ _ l4]=>pmL l0 l1 x2 x3 l4
 | _=>[]) else []
theorem zj10 {l0 l1 l4:List E}{x2 x3:Int}(h:modOkL l0 l1 x2 x3 l4=true):l0.length≤400∧l1.length≤100∧(0≤x2∧x2≤400)∧(0≤x3∧x3≤400)∧(3≤l4.length∧l4.length≤9)∧(∀x∈l0,valE x=true)∧(∀x∈l1,rexNE x=true)∧fnsOk l4.length 0 l4=true:=by
 unfold modOkL modHead at h
 simp only [Bool.and_eq_true,decide_eq_true_iff,inR,List.all_eq_true] at h
 obtain⟨⟨⟨⟨⟨h0,h1⟩,h2⟩,h3⟩,h4⟩,⟨h5,h6⟩,h7⟩:=h
 exact⟨h0,h1,h2,h3,by omega,h5,h6,h7⟩
theorem zr12 {n i:Nat}{x:E}(hx:x.Ty Tryz.prog 79)(h:fnOkE n i x=true):(putFE x).length≤36012:=by
 obtain⟨p,A,c,code,rfl,-,-,-⟩:=zb4 hx
 have h1:=(zq12 h).1
 have h2:=zr3 p
 have h3:=zr3 (code.length:Int)
 have h4:=zg15 (f:=putIE) (B:=12) code fun x _=>zt9 x
 show (putU p++putU (code.length:Int)++code.flatMap putIE).length≤_
 simp only [List.length_append]
 omega
end Go.Proofs.YtghljnfbbaklnaaGreat
