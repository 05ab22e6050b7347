/- GetIns of both sides. -/
import Derived.StillTailTactics
import Derived.Test.YtghljnfbbaklnaaGreatGetModuleL
namespace Go.Proofs.YtghljnfbbaklnaaGreat
open Go.RowKit
theorem zi3 {P:Program}{fn:Func}{p u v:Tmp}{ty t:TypeId}{tmps:Array Value}{w:World}{b:Nat}{cs:Array Value}{fr:Nat×Nat}{fs:Array Field}
 (h:fn.results=#[.cell p ty,.tmp u,.tmp v]) (ha:tmps.getD p undef=.pointer (some ⟨b,0,none⟩)) (ht:P.underlying ty=some (.struct fs))
 (hc:(P.info? ty).map (·.size)=some cs.size)
 (hg:w.heap[b]? = some (.cells cs t fr)):(results fn tmps).run P w=.ok (.tuple #[.agg cs,tmps.getD u undef,tmps.getD v undef]) w:=by
 have ha':tmps[p]?.getD undef=.pointer (some ⟨b,0,none⟩):=by simpa using ha
 have hv:=run_loadVar_row (P:=P) w b t ty cs fr _ hg ht rfl hc
 simp only [results,h]
 simp [Sem.run_bind,Result.andThen,ha',asAddr,hv]
structure GIns where
 o:Nat
 n:Nat
 p:Nat
 ok:Bool
def gbad:GIns:=⟨0,0,0,false⟩
def getIns (bs:List UInt8)(at_:Int):GIns :=
 if (getU bs at_).2.2=true then
  (if hasN (getU bs at_).1=true then
    (if (getU bs (getU bs at_).2.1).2.2=true then (if insOk (getU bs at_).1 (getU bs (getU bs at_).2.1).1=true then ⟨(getU bs at_).1,(getU bs (getU bs at_).2.1).1,(getU bs (getU bs at_).2.1).2.1,true⟩ else gbad) else gbad)
  else (if insOk (getU bs at_).1 0=true then ⟨(getU bs at_).1,0,(getU bs at_).2.1,true⟩ else gbad))
 else gbad
def retIns (g:GIns):Ending:=.returned (.tuple #[.agg #[.int .i64 g.o,.int .i64 g.n],.int .i64 g.p,.bool g.ok])
theorem zy18 {bs:List UInt8}{p:Nat}:∀(f k n:Nat),(getGo bs p f k n).2.1≤p+k+f∧(getGo bs p f k n).1≤2147483647
 | 0,k,n=>by simp [getGo]
 | f+1,k,n=>by
  unfold getGo
  split
  ·split
   ·have:=zy18 (bs:=bs) (p:=p) f (k+1) (n+(bs.getD (p+k) 0).toNat % 128*128 ^ k);exact⟨by omega,this.2⟩
   ·split
    ·simp
    ·rename_i h;exact⟨by show p+k+1≤p+k+(f+1);omega,by simp only [not_or,Nat.not_lt] at h;exact h.2⟩
  ·simp
theorem zw13 {bs:List UInt8}{at_:Int}(hl:bs.length≤1073741824):((getU bs at_).2.1:Int)≤2000000000∧(getU bs at_).1≤2147483647:=by
 unfold getU
 split
 ·have:=zy18 (bs:=bs) (p:=at_.toNat) 5 0 0;omega
 ·simp
set_option maxRecDepth 100000 in
set_option maxHeartbeats 2000000 in
theorem zc12 (A:Option Addr)(ln c:Nat)(bs:List UInt8)(at_:Int)(w:World)(hs:Rd w 1 encB (.slice A ln c) bs)(hat : -9223372036854775808≤at_∧at_≤9223372036854775807)(hln:bs.length≤1073741824) :
 Calls Tryz.prog 152 #[.slice A ln c,.int .i64 at_] w fun e w'=>e=retIns (getIns bs at_)∧Below w.heap.size w w':=by
 obtain rfl:=hs.len_eq
 have hle:=zw13 (bs:=bs) (at_:=at_) hln
 obtain⟨G,hG⟩:∃G,getIns bs at_=G:=⟨_,rfl⟩
 rw [hG]
 unfold getIns at hG
 rcases hA:getU bs at_ with ⟨a,p,ok⟩
 rw [hA] at hle hG
 have HA:=Lib.hid hA
 clear hA
 simp only [] at hle hG
 obtain⟨hp,ha⟩:=hle
 rcases hB:getU bs (p:Int) with ⟨b,q,ok2⟩
 have hle2:=zw13 (bs:=bs) (at_:=p) hln
 rw [hB] at hle2 hG
 have HB:=Lib.hid hB
 clear hB
 simp only [] at hle2 hG
 obtain⟨hq,hb⟩:=hle2
 cases ok
 ·cases hh:hasN a
  ·obtain rfl:G=gbad:=by rw [←hG];simp [hh]
   have HH:=Lib.hid hh
   clear hh hG
   go_enter Tryz.func152,Tryz.ntmps152
   go_wp2_with fail
   refine (zt2 _ _ _ bs at_ _ (by repeat (first|(with_reducible assumption)|(with_reducible refine Rd.drew ?_)|(with_reducible refine Rd.drewN ?_ _)|(with_reducible refine Rd.alloc ?_ _)|(exact Own.rd (fun _=>rfl) (by with_reducible assumption))|(exact Sl.rd (by with_reducible assumption) by1)|(refine Rd.below ?_ (by with_reducible assumption) ?_)|omega|(·simp)|(·(simp;omega)))) hat hln).mono ?_;rw [HA.out];rintro e w1 ⟨rfl,rfl⟩
   go_wp2_with fail
   refine (zc4 _ _).mono ?_;rw [HH.out];rintro e w3 ⟨rfl,rfl⟩
   go_wp2_with fail
   refine bodyPost_ret (zi3 (cs:=#[.int .i64 0,.int .i64 0]) (t:=82) (fr:=(0,0)) rfl rfl Tryz.underlying82 (by kernel_rfl) ?_) rfl ⟨rfl,by0⟩
   exact (Below.heap_alloc _ _ w.heap.size (by simp)).trans (heap_alloc_new w _)
  ·obtain rfl:G=gbad:=by rw [←hG];simp [hh]
   have HH:=Lib.hid hh
   clear hh hG
   go_enter Tryz.func152,Tryz.ntmps152
   go_wp2_with fail
   refine (zt2 _ _ _ bs at_ _ (by repeat (first|(with_reducible assumption)|(with_reducible refine Rd.drew ?_)|(with_reducible refine Rd.drewN ?_ _)|(with_reducible refine Rd.alloc ?_ _)|(exact Own.rd (fun _=>rfl) (by with_reducible assumption))|(exact Sl.rd (by with_reducible assumption) by1)|(refine Rd.below ?_ (by with_reducible assumption) ?_)|omega|(·simp)|(·(simp;omega)))) hat hln).mono ?_;rw [HA.out];rintro e w1 ⟨rfl,rfl⟩
   go_wp2_with fail
   refine (zc4 _ _).mono ?_;rw [HH.out];rintro e w3 ⟨rfl,rfl⟩
   go_wp2_with fail
   refine (zt2 _ _ _ bs (p:Int) _ (by repeat (first|(with_reducible assumption)|(with_reducible refine Rd.drew ?_)|(with_reducible refine Rd.drewN ?_ _)|(with_reducible refine Rd.alloc ?_ _)|(exact Own.rd (fun _=>rfl) (by with_reducible assumption))|(exact Sl.rd (by with_reducible assumption) by1)|(refine Rd.below ?_ (by with_reducible assumption) ?_)|omega|(·simp)|(·(simp;omega)))) (by omega) hln).mono ?_;rw [HB.out];rintro e w2 ⟨rfl,rfl⟩
   go_wp2_with fail
   refine bodyPost_ret (zi3 (cs:=#[.int .i64 0,.int .i64 0]) (t:=82) (fr:=(0,0)) rfl rfl Tryz.underlying82 (by kernel_rfl) ?_) rfl ⟨rfl,by0⟩
   exact (Below.heap_alloc _ _ w.heap.size (by simp)).trans (heap_alloc_new w _)
 ·cases hh:hasN a
  ·cases hi:insOk a 0
   ·obtain rfl:G=gbad:=by rw [←hG];simp [hh,hi]
    have HH:=Lib.hid hh
    clear hh hG
    have HI:=Lib.hid hi
    clear hi
    go_enter Tryz.func152,Tryz.ntmps152
    go_wp2_with fail
    refine (zt2 _ _ _ bs at_ _ (by repeat (first|(with_reducible assumption)|(with_reducible refine Rd.drew ?_)|(with_reducible refine Rd.drewN ?_ _)|(with_reducible refine Rd.alloc ?_ _)|(exact Own.rd (fun _=>rfl) (by with_reducible assumption))|(exact Sl.rd (by with_reducible assumption) by1)|(refine Rd.below ?_ (by with_reducible assumption) ?_)|omega|(·simp)|(·(simp;omega)))) hat hln).mono ?_;rw [HA.out];rintro e w1 ⟨rfl,rfl⟩
    go_wp2_with fail
    refine (zc4 _ _).mono ?_;rw [HH.out];rintro e w3 ⟨rfl,rfl⟩
    go_wp2_with fail
    refine (zt4 _ _ _).mono ?_;rw [show insOk (a:Int) 0=false from HI.out];rintro e w4 ⟨rfl,hb4⟩
    have hz4:=hb4.size
    (try simp only [World.size_alloc,World.size_setCell] at hz4)
    have g4:w4.heap[w.heap.size]? = some (.cells #[.int .i64 0,.int .i64 0] 82 (0,0)):=((hb4.block w.heap.size by1).trans ((Below.heap_alloc _ _ w.heap.size (by simp)).trans (heap_alloc_new w _)))
    have x0:w4.cell? ⟨w.heap.size+1,0,none⟩=some (.int .i64 (a:Int)):=(zc1 hb4 (by simp [go_sem]) (by simp))
    have x1:w4.cell? ⟨w.heap.size+1,1,none⟩=some (.int .i64 0):=(zc1 hb4 (by simp [go_sem]) (by simp))
    have k0:w4.cell? ⟨w.heap.size,0,none⟩=some (.int .i64 0):=(by simp [World.cell?,g4])
    have k1:w4.cell? ⟨w.heap.size,1,none⟩=some (.int .i64 0):=(by simp [World.cell?,g4])
    have f4:∀j,w4.frozen? ⟨w.heap.size,j,none⟩=false:=(by simp [World.frozen?,g4])
    go_wp2_with fail
    refine bodyPost_ret (zi3 (cs:=#[.int .i64 0,.int .i64 0]) (t:=82) (fr:=(0,0)) rfl rfl Tryz.underlying82 (by kernel_rfl) ?_) rfl ⟨rfl,by0⟩
    first|(simp only [zc5,g4];simp [setAt];done)|(simp [World.alloc,World.setCell,Array.getElem?_push,Array.getElem?_modify];done)
   ·obtain rfl:G=⟨a,0,p,true⟩:=by rw [←hG];simp [hh,hi]
    have HH:=Lib.hid hh
    clear hh hG
    have HI:=Lib.hid hi
    clear hi
    go_enter Tryz.func152,Tryz.ntmps152
    go_wp2_with fail
    refine (zt2 _ _ _ bs at_ _ (by repeat (first|(with_reducible assumption)|(with_reducible refine Rd.drew ?_)|(with_reducible refine Rd.drewN ?_ _)|(with_reducible refine Rd.alloc ?_ _)|(exact Own.rd (fun _=>rfl) (by with_reducible assumption))|(exact Sl.rd (by with_reducible assumption) by1)|(refine Rd.below ?_ (by with_reducible assumption) ?_)|omega|(·simp)|(·(simp;omega)))) hat hln).mono ?_;rw [HA.out];rintro e w1 ⟨rfl,rfl⟩
    go_wp2_with fail
    refine (zc4 _ _).mono ?_;rw [HH.out];rintro e w3 ⟨rfl,rfl⟩
    go_wp2_with fail
    refine (zt4 _ _ _).mono ?_;rw [show insOk (a:Int) 0=true from HI.out];rintro e w4 ⟨rfl,hb4⟩
    have hz4:=hb4.size
    (try simp only [World.size_alloc,World.size_setCell] at hz4)
    have g4:w4.heap[w.heap.size]? = some (.cells #[.int .i64 0,.int .i64 0] 82 (0,0)):=((hb4.block w.heap.size by1).trans ((Below.heap_alloc _ _ w.heap.size (by simp)).trans (heap_alloc_new w _)))
    have x0:w4.cell? ⟨w.heap.size+1,0,none⟩=some (.int .i64 (a:Int)):=(zc1 hb4 (by simp [go_sem]) (by simp))
    have x1:w4.cell? ⟨w.heap.size+1,1,none⟩=some (.int .i64 0):=(zc1 hb4 (by simp [go_sem]) (by simp))
    have k0:w4.cell? ⟨w.heap.size,0,none⟩=some (.int .i64 0):=(by simp [World.cell?,g4])
    have k1:w4.cell? ⟨w.heap.size,1,none⟩=some (.int .i64 0):=(by simp [World.cell?,g4])
    have f4:∀j,w4.frozen? ⟨w.heap.size,j,none⟩=false:=(by simp [World.frozen?,g4])
    go_wp2_with fail
    refine bodyPost_ret (zi3 (cs:=#[.int .i64 (a:Int),.int .i64 0]) (t:=82) (fr:=(0,0)) rfl rfl Tryz.underlying82 (by kernel_rfl) ?_) rfl ⟨rfl,by0⟩
    first|(simp only [zc5,g4];simp [setAt];done)|(simp [World.alloc,World.setCell,Array.getElem?_push,Array.getElem?_modify];done)
  ·cases ok2
   ·obtain rfl:G=gbad:=by rw [←hG];simp [hh]
    have HH:=Lib.hid hh
    clear hh hG
    go_enter Tryz.func152,Tryz.ntmps152
    go_wp2_with fail
    refine (zt2 _ _ _ bs at_ _ (by repeat (first|(with_reducible assumption)|(with_reducible refine Rd.drew ?_)|(with_reducible refine Rd.drewN ?_ _)|(with_reducible refine Rd.alloc ?_ _)|(exact Own.rd (fun _=>rfl) (by with_reducible assumption))|(exact Sl.rd (by with_reducible assumption) by1)|(refine Rd.below ?_ (by with_reducible assumption) ?_)|omega|(·simp)|(·(simp;omega)))) hat hln).mono ?_;rw [HA.out];rintro e w1 ⟨rfl,rfl⟩
    go_wp2_with fail
    refine (zc4 _ _).mono ?_;rw [HH.out];rintro e w3 ⟨rfl,rfl⟩
    go_wp2_with fail
    refine (zt2 _ _ _ bs (p:Int) _ (by repeat (first|(with_reducible assumption)|(with_reducible refine Rd.drew ?_)|(with_reducible refine Rd.drewN ?_ _)|(with_reducible refine Rd.alloc ?_ _)|(exact Own.rd (fun _=>rfl) (by with_reducible assumption))|(exact Sl.rd (by with_reducible assumption) by1)|(refine Rd.below ?_ (by with_reducible assumption) ?_)|omega|(·simp)|(·(simp;omega)))) (by omega) hln).mono ?_;rw [HB.out];rintro e w2 ⟨rfl,rfl⟩
    go_wp2_with fail
    refine bodyPost_ret (zi3 (cs:=#[.int .i64 0,.int .i64 0]) (t:=82) (fr:=(0,0)) rfl rfl Tryz.underlying82 (by kernel_rfl) ?_) rfl ⟨rfl,by0⟩
    exact (Below.heap_alloc _ _ w.heap.size (by simp)).trans (heap_alloc_new w _)
   ·cases hi:insOk a b
    ·obtain rfl:G=gbad:=by rw [←hG];simp [hh,hi]
     have HH:=Lib.hid hh
     clear hh hG
     have HI:=Lib.hid hi
     clear hi
     go_enter Tryz.func152,Tryz.ntmps152
     go_wp2_with fail
     refine (zt2 _ _ _ bs at_ _ (by repeat (first|(with_reducible assumption)|(with_reducible refine Rd.drew ?_)|(with_reducible refine Rd.drewN ?_ _)|(with_reducible refine Rd.alloc ?_ _)|(exact Own.rd (fun _=>rfl) (by with_reducible assumption))|(exact Sl.rd (by with_reducible assumption) by1)|(refine Rd.below ?_ (by with_reducible assumption) ?_)|omega|(·simp)|(·(simp;omega)))) hat hln).mono ?_;rw [HA.out];rintro e w1 ⟨rfl,rfl⟩
     go_wp2_with fail
     refine (zc4 _ _).mono ?_;rw [HH.out];rintro e w3 ⟨rfl,rfl⟩
     go_wp2_with fail
     refine (zt2 _ _ _ bs (p:Int) _ (by repeat (first|(with_reducible assumption)|(with_reducible refine Rd.drew ?_)|(with_reducible refine Rd.drewN ?_ _)|(with_reducible refine Rd.alloc ?_ _)|(exact Own.rd (fun _=>rfl) (by with_reducible assumption))|(exact Sl.rd (by with_reducible assumption) by1)|(refine Rd.below ?_ (by with_reducible assumption) ?_)|omega|(·simp)|(·(simp;omega)))) (by omega) hln).mono ?_;rw [HB.out];rintro e w2 ⟨rfl,rfl⟩
     go_wp2_with fail
     refine (zt4 _ _ _).mono ?_;rw [show insOk (a:Int) (b:Int)=false from HI.out];rintro e w4 ⟨rfl,hb4⟩
     have hz4:=hb4.size
     (try simp only [World.size_alloc,World.size_setCell] at hz4)
     have g4:w4.heap[w.heap.size]? = some (.cells #[.int .i64 0,.int .i64 0] 82 (0,0)):=((hb4.block w.heap.size by1).trans ((Below.heap_alloc _ _ w.heap.size (by simp)).trans (heap_alloc_new w _)))
     have x0:w4.cell? ⟨w.heap.size+1,0,none⟩=some (.int .i64 (a:Int)):=(zc1 hb4 (by simp [go_sem]) (by simp))
     have x1:w4.cell? ⟨w.heap.size+1,1,none⟩=some (.int .i64 (b:Int)):=(zc1 hb4 (by simp [go_sem]) (by simp))
     have k0:w4.cell? ⟨w.heap.size,0,none⟩=some (.int .i64 0):=(by simp [World.cell?,g4])
     have k1:w4.cell? ⟨w.heap.size,1,none⟩=some (.int .i64 0):=(by simp [World.cell?,g4])
     have f4:∀j,w4.frozen? ⟨w.heap.size,j,none⟩=false:=(by simp [World.frozen?,g4])
     go_wp2_with fail
     refine bodyPost_ret (zi3 (cs:=#[.int .i64 0,.int .i64 0]) (t:=82) (fr:=(0,0)) rfl rfl Tryz.underlying82 (by kernel_rfl) ?_) rfl ⟨rfl,by0⟩
     first|(simp only [zc5,g4];simp [setAt];done)|(simp [World.alloc,World.setCell,Array.getElem?_push,Array.getElem?_modify];done)
    ·obtain rfl:G=⟨a,b,q,true⟩:=by rw [←hG];simp [hh,hi]
     have HH:=Lib.hid hh
     clear hh hG
     have HI:=Lib.hid hi
     clear hi
     go_enter Tryz.func152,Tryz.ntmps152
     go_wp2_with fail
     refine (zt2 _ _ _ bs at_ _ (by repeat (first|(with_reducible assumption)|(with_reducible refine Rd.drew ?_)|(with_reducible refine Rd.drewN ?_ _)|(with_reducible refine Rd.alloc ?_ _)|(exact Own.rd (fun _=>rfl) (by with_reducible assumption))|(exact Sl.rd (by with_reducible assumption) by1)|(refine Rd.below ?_ (by with_reducible assumption) ?_)|omega|(·simp)|(·(simp;omega)))) hat hln).mono ?_;rw [HA.out];rintro e w1 ⟨rfl,rfl⟩
     go_wp2_with fail
     refine (zc4 _ _).mono ?_;rw [HH.out];rintro e w3 ⟨rfl,rfl⟩
     go_wp2_with fail
     refine (zt2 _ _ _ bs (p:Int) _ (by repeat (first|(with_reducible assumption)|(with_reducible refine Rd.drew ?_)|(with_reducible refine Rd.drewN ?_ _)|(with_reducible refine Rd.alloc ?_ _)|(exact Own.rd (fun _=>rfl) (by with_reducible assumption))|(exact Sl.rd (by with_reducible assumption) by1)|(refine Rd.below ?_ (by with_reducible assumption) ?_)|omega|(·simp)|(·(simp;omega)))) (by omega) hln).mono ?_;rw [HB.out];rintro e w2 ⟨rfl,rfl⟩
     go_wp2_with fail
     refine (zt4 _ _ _).mono ?_;rw [show insOk (a:Int) (b:Int)=true from HI.out];rintro e w4 ⟨rfl,hb4⟩
     have hz4:=hb4.size
     (try simp only [World.size_alloc,World.size_setCell] at hz4)
     have g4:w4.heap[w.heap.size]? = some (.cells #[.int .i64 0,.int .i64 0] 82 (0,0)):=((hb4.block w.heap.size by1).trans ((Below.heap_alloc _ _ w.heap.size (by simp)).trans (heap_alloc_new w _)))
     have x0:w4.cell? ⟨w.heap.size+1,0,none⟩=some (.int .i64 (a:Int)):=(zc1 hb4 (by simp [go_sem]) (by simp))
     have x1:w4.cell? ⟨w.heap.size+1,1,none⟩=some (.int .i64 (b:Int)):=(zc1 hb4 (by simp [go_sem]) (by simp))
     have k0:w4.cell? ⟨w.heap.size,0,none⟩=some (.int .i64 0):=(by simp [World.cell?,g4])
     have k1:w4.cell? ⟨w.heap.size,1,none⟩=some (.int .i64 0):=(by simp [World.cell?,g4])
     have f4:∀j,w4.frozen? ⟨w.heap.size,j,none⟩=false:=(by simp [World.frozen?,g4])
     go_wp2_with fail
     refine bodyPost_ret (zi3 (cs:=#[.int .i64 (a:Int),.int .i64 b]) (t:=82) (fr:=(0,0)) rfl rfl Tryz.underlying82 (by kernel_rfl) ?_) rfl ⟨rfl,by0⟩
     first|(simp only [zc5,g4];simp [setAt];done)|(simp [World.alloc,World.setCell,Array.getElem?_push,Array.getElem?_modify];done)
set_option maxRecDepth 100000 in
set_option maxHeartbeats 2000000 in
theorem zd12 (A:Option Addr)(ln c:Nat)(bs:List UInt8)(at_:Int)(w:World)(hs:Rd w 1 encB (.slice A ln c) bs)(hat : -9223372036854775808≤at_∧at_≤9223372036854775807)(hln:bs.length≤1073741824) :
 Calls Tryz.prog 155 #[.slice A ln c,.int .i64 at_] w fun e w'=>e=retIns (getIns bs at_)∧Below w.heap.size w w':=by
 obtain rfl:=hs.len_eq
 have hle:=zw13 (bs:=bs) (at_:=at_) hln
 obtain⟨G,hG⟩:∃G,getIns bs at_=G:=⟨_,rfl⟩
 rw [hG]
 unfold getIns at hG
 rcases hA:getU bs at_ with ⟨a,p,ok⟩
 rw [hA] at hle hG
 have HA:=Lib.hid hA
 clear hA
 simp only [] at hle hG
 obtain⟨hp,ha⟩:=hle
 rcases hB:getU bs (p:Int) with ⟨b,q,ok2⟩
 have hle2:=zw13 (bs:=bs) (at_:=p) hln
 rw [hB] at hle2 hG
 have HB:=Lib.hid hB
 clear hB
 simp only [] at hle2 hG
 obtain⟨hq,hb⟩:=hle2
 cases ok
 ·cases hh:hasN a
  ·obtain rfl:G=gbad:=by rw [←hG];simp [hh]
   have HH:=Lib.hid hh
   clear hh hG
   go_enter Tryz.func155,Tryz.ntmps155
   go_wp2_with fail
   refine (zc3 _ _ _ bs at_ _ (by repeat (first|(with_reducible assumption)|(with_reducible refine Rd.drew ?_)|(with_reducible refine Rd.drewN ?_ _)|(with_reducible refine Rd.alloc ?_ _)|(exact Own.rd (fun _=>rfl) (by with_reducible assumption))|(exact Sl.rd (by with_reducible assumption) by1)|(refine Rd.below ?_ (by with_reducible assumption) ?_)|omega|(·simp)|(·(simp;omega)))) hat hln).mono ?_;rw [HA.out];rintro e w1 ⟨rfl,rfl⟩
   go_wp2_with fail
   refine bodyPost_ret (zi3 (cs:=#[.int .i64 0,.int .i64 0]) (t:=82) (fr:=(0,0)) rfl rfl Tryz.underlying82 (by kernel_rfl) ?_) rfl ⟨rfl,by0⟩
   exact (Below.heap_alloc _ _ w.heap.size (by simp)).trans (heap_alloc_new w _)
  ·obtain rfl:G=gbad:=by rw [←hG];simp [hh]
   have HH:=Lib.hid hh
   clear hh hG
   go_enter Tryz.func155,Tryz.ntmps155
   go_wp2_with fail
   refine (zc3 _ _ _ bs at_ _ (by repeat (first|(with_reducible assumption)|(with_reducible refine Rd.drew ?_)|(with_reducible refine Rd.drewN ?_ _)|(with_reducible refine Rd.alloc ?_ _)|(exact Own.rd (fun _=>rfl) (by with_reducible assumption))|(exact Sl.rd (by with_reducible assumption) by1)|(refine Rd.below ?_ (by with_reducible assumption) ?_)|omega|(·simp)|(·(simp;omega)))) hat hln).mono ?_;rw [HA.out];rintro e w1 ⟨rfl,rfl⟩
   go_wp2_with fail
   refine bodyPost_ret (zi3 (cs:=#[.int .i64 0,.int .i64 0]) (t:=82) (fr:=(0,0)) rfl rfl Tryz.underlying82 (by kernel_rfl) ?_) rfl ⟨rfl,by0⟩
   exact (Below.heap_alloc _ _ w.heap.size (by simp)).trans (heap_alloc_new w _)
 ·cases hh:hasN a
  ·cases hi:insOk a 0
   ·obtain rfl:G=gbad:=by rw [←hG];simp [hh,hi]
    have HH:=Lib.hid hh
    clear hh hG
    have HI:=Lib.hid hi
    clear hi
    go_enter Tryz.func155,Tryz.ntmps155
    go_wp2_with fail
    refine (zc3 _ _ _ bs at_ _ (by repeat (first|(with_reducible assumption)|(with_reducible refine Rd.drew ?_)|(with_reducible refine Rd.drewN ?_ _)|(with_reducible refine Rd.alloc ?_ _)|(exact Own.rd (fun _=>rfl) (by with_reducible assumption))|(exact Sl.rd (by with_reducible assumption) by1)|(refine Rd.below ?_ (by with_reducible assumption) ?_)|omega|(·simp)|(·(simp;omega)))) hat hln).mono ?_;rw [HA.out];rintro e w1 ⟨rfl,rfl⟩
    go_wp2_with fail
    refine (zw3 _ _).mono ?_;rw [HH.out];rintro e w3 ⟨rfl,rfl⟩
    go_wp2_with fail
    refine (zu4 _ _ _).mono ?_;rw [show insOk (a:Int) 0=false from HI.out];rintro e w4 ⟨rfl,hb4⟩
    have hz4:=hb4.size
    (try simp only [World.size_alloc,World.size_setCell] at hz4)
    have g4:w4.heap[w.heap.size]? = some (.cells #[.int .i64 0,.int .i64 0] 82 (0,0)):=((hb4.block w.heap.size by1).trans ((Below.heap_alloc _ _ w.heap.size (by simp)).trans (heap_alloc_new w _)))
    have x0:w4.cell? ⟨w.heap.size+1,0,none⟩=some (.int .i64 (a:Int)):=(zc1 hb4 (by simp [go_sem]) (by simp))
    have x1:w4.cell? ⟨w.heap.size+1,1,none⟩=some (.int .i64 0):=(zc1 hb4 (by simp [go_sem]) (by simp))
    have k0:w4.cell? ⟨w.heap.size,0,none⟩=some (.int .i64 0):=(by simp [World.cell?,g4])
    have k1:w4.cell? ⟨w.heap.size,1,none⟩=some (.int .i64 0):=(by simp [World.cell?,g4])
    have f4:∀j,w4.frozen? ⟨w.heap.size,j,none⟩=false:=(by simp [World.frozen?,g4])
    go_wp2_with fail
    refine bodyPost_ret (zi3 (cs:=#[.int .i64 0,.int .i64 0]) (t:=82) (fr:=(0,0)) rfl rfl Tryz.underlying82 (by kernel_rfl) ?_) rfl ⟨rfl,by0⟩
    first|(simp only [zc5,g4];simp [setAt];done)|(simp [World.alloc,World.setCell,Array.getElem?_push,Array.getElem?_modify];done)
   ·obtain rfl:G=⟨a,0,p,true⟩:=by rw [←hG];simp [hh,hi]
    have HH:=Lib.hid hh
    clear hh hG
    have HI:=Lib.hid hi
    clear hi
    go_enter Tryz.func155,Tryz.ntmps155
    go_wp2_with fail
    refine (zc3 _ _ _ bs at_ _ (by repeat (first|(with_reducible assumption)|(with_reducible refine Rd.drew ?_)|(with_reducible refine Rd.drewN ?_ _)|(with_reducible refine Rd.alloc ?_ _)|(exact Own.rd (fun _=>rfl) (by with_reducible assumption))|(exact Sl.rd (by with_reducible assumption) by1)|(refine Rd.below ?_ (by with_reducible assumption) ?_)|omega|(·simp)|(·(simp;omega)))) hat hln).mono ?_;rw [HA.out];rintro e w1 ⟨rfl,rfl⟩
    go_wp2_with fail
    refine (zw3 _ _).mono ?_;rw [HH.out];rintro e w3 ⟨rfl,rfl⟩
    go_wp2_with fail
    refine (zu4 _ _ _).mono ?_;rw [show insOk (a:Int) 0=true from HI.out];rintro e w4 ⟨rfl,hb4⟩
    have hz4:=hb4.size
    (try simp only [World.size_alloc,World.size_setCell] at hz4)
    have g4:w4.heap[w.heap.size]? = some (.cells #[.int .i64 0,.int .i64 0] 82 (0,0)):=((hb4.block w.heap.size by1).trans ((Below.heap_alloc _ _ w.heap.size (by simp)).trans (heap_alloc_new w _)))
    have x0:w4.cell? ⟨w.heap.size+1,0,none⟩=some (.int .i64 (a:Int)):=(zc1 hb4 (by simp [go_sem]) (by simp))
    have x1:w4.cell? ⟨w.heap.size+1,1,none⟩=some (.int .i64 0):=(zc1 hb4 (by simp [go_sem]) (by simp))
    have k0:w4.cell? ⟨w.heap.size,0,none⟩=some (.int .i64 0):=(by simp [World.cell?,g4])
    have k1:w4.cell? ⟨w.heap.size,1,none⟩=some (.int .i64 0):=(by simp [World.cell?,g4])
    have f4:∀j,w4.frozen? ⟨w.heap.size,j,none⟩=false:=(by simp [World.frozen?,g4])
    go_wp2_with fail
    refine bodyPost_ret (zi3 (cs:=#[.int .i64 (a:Int),.int .i64 0]) (t:=82) (fr:=(0,0)) rfl rfl Tryz.underlying82 (by kernel_rfl) ?_) rfl ⟨rfl,by0⟩
    first|(simp only [zc5,g4];simp [setAt];done)|(simp [World.alloc,World.setCell,Array.getElem?_push,Array.getElem?_modify];done)
  ·cases ok2
   ·obtain rfl:G=gbad:=by rw [←hG];simp [hh]
    have HH:=Lib.hid hh
    clear hh hG
    go_enter Tryz.func155,Tryz.ntmps155
    go_wp2_with fail
    refine (zc3 _ _ _ bs at_ _ (by repeat (first|(with_reducible assumption)|(with_reducible refine Rd.drew ?_)|(with_reducible refine Rd.drewN ?_ _)|(with_reducible refine Rd.alloc ?_ _)|(exact Own.rd (fun _=>rfl) (by with_reducible assumption))|(exact Sl.rd (by with_reducible assumption) by1)|(refine Rd.below ?_ (by with_reducible assumption) ?_)|omega|(·simp)|(·(simp;omega)))) hat hln).mono ?_;rw [HA.out];rintro e w1 ⟨rfl,rfl⟩
    go_wp2_with fail
    refine (zw3 _ _).mono ?_;rw [HH.out];rintro e w3 ⟨rfl,rfl⟩
    go_wp2_with fail
    refine (zc3 _ _ _ bs (p:Int) _ (by repeat (first|(with_reducible assumption)|(with_reducible refine Rd.drew ?_)|(with_reducible refine Rd.drewN ?_ _)|(with_reducible refine Rd.alloc ?_ _)|(exact Own.rd (fun _=>rfl) (by with_reducible assumption))|(exact Sl.rd (by with_reducible assumption) by1)|(refine Rd.below ?_ (by with_reducible assumption) ?_)|omega|(·simp)|(·(simp;omega)))) (by omega) hln).mono ?_;rw [HB.out];rintro e w2 ⟨rfl,rfl⟩
    go_wp2_with fail
    refine bodyPost_ret (zi3 (cs:=#[.int .i64 0,.int .i64 0]) (t:=82) (fr:=(0,0)) rfl rfl Tryz.underlying82 (by kernel_rfl) ?_) rfl ⟨rfl,by0⟩
    exact (Below.heap_alloc _ _ w.heap.size (by simp)).trans (heap_alloc_new w _)
   ·cases hi:insOk a b
    ·obtain rfl:G=gbad:=by rw [←hG];simp [hh,hi]
     have HH:=Lib.hid hh
     clear hh hG
     have HI:=Lib.hid hi
     clear hi
     go_enter Tryz.func155,Tryz.ntmps155
     go_wp2_with fail
     refine (zc3 _ _ _ bs at_ _ (by repeat (first|(with_reducible assumption)|(with_reducible refine Rd.drew ?_)|(with_reducible refine Rd.drewN ?_ _)|(with_reducible refine Rd.alloc ?_ _)|(exact Own.rd (fun _=>rfl) (by with_reducible assumption))|(exact Sl.rd (by with_reducible assumption) by1)|(refine Rd.below ?_ (by with_reducible assumption) ?_)|omega|(·simp)|(·(simp;omega)))) hat hln).mono ?_;rw [HA.out];rintro e w1 ⟨rfl,rfl⟩
     go_wp2_with fail
     refine (zw3 _ _).mono ?_;rw [HH.out];rintro e w3 ⟨rfl,rfl⟩
     go_wp2_with fail
     refine (zc3 _ _ _ bs (p:Int) _ (by repeat (first|(with_reducible assumption)|(with_reducible refine Rd.drew ?_)|(with_reducible refine Rd.drewN ?_ _)|(with_reducible refine Rd.alloc ?_ _)|(exact Own.rd (fun _=>rfl) (by with_reducible assumption))|(exact Sl.rd (by with_reducible assumption) by1)|(refine Rd.below ?_ (by with_reducible assumption) ?_)|omega|(·simp)|(·(simp;omega)))) (by omega) hln).mono ?_;rw [HB.out];rintro e w2 ⟨rfl,rfl⟩
     go_wp2_with fail
     refine (zu4 _ _ _).mono ?_;rw [show insOk (a:Int) (b:Int)=false from HI.out];rintro e w4 ⟨rfl,hb4⟩
     have hz4:=hb4.size
     (try simp only [World.size_alloc,World.size_setCell] at hz4)
     have g4:w4.heap[w.heap.size]? = some (.cells #[.int .i64 0,.int .i64 0] 82 (0,0)):=((hb4.block w.heap.size by1).trans ((Below.heap_alloc _ _ w.heap.size (by simp)).trans (heap_alloc_new w _)))
     have x0:w4.cell? ⟨w.heap.size+1,0,none⟩=some (.int .i64 (a:Int)):=(zc1 hb4 (by simp [go_sem]) (by simp))
     have x1:w4.cell? ⟨w.heap.size+1,1,none⟩=some (.int .i64 (b:Int)):=(zc1 hb4 (by simp [go_sem]) (by simp))
     have k0:w4.cell? ⟨w.heap.size,0,none⟩=some (.int .i64 0):=(by simp [World.cell?,g4])
     have k1:w4.cell? ⟨w.heap.size,1,none⟩=some (.int .i64 0):=(by simp [World.cell?,g4])
     have f4:∀j,w4.frozen? ⟨w.heap.size,j,none⟩=false:=(by simp [World.frozen?,g4])
     go_wp2_with fail
     refine bodyPost_ret (zi3 (cs:=#[.int .i64 0,.int .i64 0]) (t:=82) (fr:=(0,0)) rfl rfl Tryz.underlying82 (by kernel_rfl) ?_) rfl ⟨rfl,by0⟩
     first|(simp only [zc5,g4];simp [setAt];done)|(simp [World.alloc,World.setCell,Array.getElem?_push,Array.getElem?_modify];done)
    ·obtain rfl:G=⟨a,b,q,true⟩:=by rw [←hG];simp [hh,hi]
     have HH:=Lib.hid hh
     clear hh hG
     have HI:=Lib.hid hi
     clear hi
     go_enter Tryz.func155,Tryz.ntmps155
     go_wp2_with fail
     refine (zc3 _ _ _ bs at_ _ (by repeat (first|(with_reducible assumption)|(with_reducible refine Rd.drew ?_)|(with_reducible refine Rd.drewN ?_ _)|(with_reducible refine Rd.alloc ?_ _)|(exact Own.rd (fun _=>rfl) (by with_reducible assumption))|(exact Sl.rd (by with_reducible assumption) by1)|(refine Rd.below ?_ (by with_reducible assumption) ?_)|omega|(·simp)|(·(simp;omega)))) hat hln).mono ?_;rw [HA.out];rintro e w1 ⟨rfl,rfl⟩
     go_wp2_with fail
     refine (zw3 _ _).mono ?_;rw [HH.out];rintro e w3 ⟨rfl,rfl⟩
     go_wp2_with fail
     refine (zc3 _ _ _ bs (p:Int) _ (by repeat (first|(with_reducible assumption)|(with_reducible refine Rd.drew ?_)|(with_reducible refine Rd.drewN ?_ _)|(with_reducible refine Rd.alloc ?_ _)|(exact Own.rd (fun _=>rfl) (by with_reducible assumption))|(exact Sl.rd (by with_reducible assumption) by1)|(refine Rd.below ?_ (by with_reducible assumption) ?_)|omega|(·simp)|(·(simp;omega)))) (by omega) hln).mono ?_;rw [HB.out];rintro e w2 ⟨rfl,rfl⟩
     go_wp2_with fail
     refine (zu4 _ _ _).mono ?_;rw [show insOk (a:Int) (b:Int)=true from HI.out];rintro e w4 ⟨rfl,hb4⟩
     have hz4:=hb4.size
     (try simp only [World.size_alloc,World.size_setCell] at hz4)
     have g4:w4.heap[w.heap.size]? = some (.cells #[.int .i64 0,.int .i64 0] 82 (0,0)):=((hb4.block w.heap.size by1).trans ((Below.heap_alloc _ _ w.heap.size (by simp)).trans (heap_alloc_new w _)))
     have x0:w4.cell? ⟨w.heap.size+1,0,none⟩=some (.int .i64 (a:Int)):=(zc1 hb4 (by simp [go_sem]) (by simp))
     have x1:w4.cell? ⟨w.heap.size+1,1,none⟩=some (.int .i64 (b:Int)):=(zc1 hb4 (by simp [go_sem]) (by simp))
     have k0:w4.cell? ⟨w.heap.size,0,none⟩=some (.int .i64 0):=(by simp [World.cell?,g4])
     have k1:w4.cell? ⟨w.heap.size,1,none⟩=some (.int .i64 0):=(by simp [World.cell?,g4])
     have f4:∀j,w4.frozen? ⟨w.heap.size,j,none⟩=false:=(by simp [World.frozen?,g4])
     go_wp2_with fail
     refine bodyPost_ret (zi3 (cs:=#[.int .i64 (a:Int),.int .i64 b]) (t:=82) (fr:=(0,0)) rfl rfl Tryz.underlying82 (by kernel_rfl) ?_) rfl ⟨rfl,by0⟩
     first|(simp only [zc5,g4];simp [setAt];done)|(simp [World.alloc,World.setCell,Array.getElem?_push,Array.getElem?_modify];done)
set_option maxRecDepth 100000
theorem zz18 {w:World}{St:Nat→Prop}{φ:Nat→Lc}{K:Nat→Prop}:∀{bs:List UInt8} {us:List Value} {fp:List Nat},CRL w St φ K (bytC bs) us fp→us=bs.map fun b=>.int .u8 b.toNat
 | [],us,fp,h=>by
  have h':CRL w St φ K [] us fp:=h
  simp only [CRL] at h'
  exact h'.1
 | b :: r,us,fp,h=>by
  have h':CRL w St φ K (.v (.int .u8 b.toNat) :: bytC r) us fp:=h
  simp only [CRL] at h'
  obtain⟨u,us',f1,f2,rfl,rfl,h1,h2⟩:=h'
  simp only [CR] at h1
  obtain⟨rfl,-⟩:=h1
  rw [zz18 h2]
  rfl
theorem za19 {w:World}{St:Nat→Prop}{φ:Nat→Lc}{K:Nat→Prop}{u:Value}{bs:List UInt8}(h:VR w St φ K (.c (.ro bs.length 1 (bytC bs))) u):∃A c,u=.slice A bs.length c∧Rd w 1 encB (.slice A bs.length c) bs:=by
 simp only [VR,CR] at h
 obtain⟨-,A,c,rfl,⟨h1,h2,h3⟩,h4,h5⟩:=h
 refine⟨A,c,rfl,A,c,rfl,h1,⟨h2,h3⟩,fun hn=>?_⟩
 obtain⟨b,o,us,rfl,-,hlt,hc,hcr⟩:=h5 hn
 refine⟨b,o,rfl,Nat.zero_le _,hlt,fun i hi j u hu=>?_⟩
 have hus:=zz18 hcr
 have hj:j=0∧u=.int .u8 bs[i].toNat:=by
  cases j with
  | zero=>simp [encB] at hu;exact⟨rfl,hu.symm⟩
  | succ j=>simp [encB] at hu
 obtain⟨rfl,rfl⟩:=hj
 have:=hc i (.int .u8 bs[i].toNat) (by rw [hus,List.getElem?_map,List.getElem?_eq_getElem hi];rfl)
 rw [Nat.mul_one,Nat.add_zero]
 exact this
theorem zs7 {P:Program}{f:FuncId}{ins:List AV}{v:Value}{res:AV}(he:entB P f=true)(hv:∀w:World,VRF w (fun _=>False) φ0 K0 res v [])
 (hc:∀(w:World) (St:Nat→Prop) (φ:Nat→Lc) (K:Nat→Prop) (us:List Value),VRL w St φ K ins us→Calls P f us.toArray w fun e w'=>e=.returned v∧Below w.heap.size w w'):Ctr P f ins [] res []:=by
 refine⟨he,fun w St φ F us' hent=>?_⟩
 refine (hc w St φ _ us' hent.args).mono ?_
 rintro e w' ⟨rfl,hb⟩
 exact⟨_,_,v,fun _=>False,fun _=>[],[],⟨rfl,rfl⟩,rfl,⟨⟨hb.os,hb.tape,hb.output,hb.size,fun b hlt _=>.inl (hb.block b hlt)⟩,hv w',by simp,rfl,fun i cs hi=>by simp at hi,fun i hi=>by simp at hi,fun i hi=>by simp at hi,fun i j hi=>by simp at hi,fun i b lo hi=>by simp at hi,fun b hb=>by simp at hb,fun b hb=>hb.elim⟩⟩
theorem zo15 {w:World}{St:Nat→Prop}{φ:Nat→Lc}{K:Nat→Prop}{x:Value}{l:List AV}{us:List Value}(hx:scal x=true)(h:VRFL w St φ K l us []):VRFL w St φ K (.c (.v x) :: l) (x :: us) []:=by
 simp only [VRFL]
 exact⟨x,us,[],[],rfl,rfl,by simp only [VRF,CR];exact⟨trivial,hx,trivial⟩,h⟩
theorem vrf_3 {w:World}{St:Nat→Prop}{φ:Nat→Lc}{K:Nat→Prop}{a b c:Value}(ha:scal a=true)(hb:scal b=true)(hc:scal c=true):VRF w St φ K (.tu [.c (.v a),.c (.v b),.c (.v c)]) (.tuple #[a,b,c]) []:=by
 simp only [VRF]
 exact⟨[a,b,c],rfl,zo15 ha (zo15 hb (zo15 hc (by simp only [VRFL];exact⟨trivial,trivial⟩)))⟩
theorem vrf_ins {w:World}{St:Nat→Prop}{φ:Nat→Lc}{K:Nat→Prop}{o n p:Int}{b:Bool}:VRF w St φ K (.tu [.ag [.v (.int .i64 o),.v (.int .i64 n)],.c (.v (.int .i64 p)),.c (.v (.bool b))]) (.tuple #[.agg #[.int .i64 o,.int .i64 n],.int .i64 p,.bool b]) []:=by
 simp only [VRF]
 refine⟨[.agg #[.int .i64 o,.int .i64 n],.int .i64 p,.bool b],rfl,?_⟩
 have h2:VRFL w St φ K [.c (.v (.int .i64 p)),.c (.v (.bool b))] [.int .i64 p,.bool b] []:=zo15 rfl (zo15 rfl (by simp only [VRFL];exact⟨trivial,trivial⟩))
 rw [VRFL]
 refine⟨.agg #[.int .i64 o,.int .i64 n],_,[],[],rfl,rfl,?_,h2⟩
 simp only [VRF]
 refine⟨[.int .i64 o,.int .i64 n],rfl,?_⟩
 exact CRL.cons (f:=[]) (f':=[]) (by simp only [CR];exact⟨trivial,rfl,trivial⟩) (CRL.cons (f:=[]) (f':=[]) (by simp only [CR];exact⟨trivial,rfl,trivial⟩) CRL.nil)
theorem zu20 {bs:List UInt8}(at_:Int)(hat : -9223372036854775808≤at_∧at_≤9223372036854775807)(hn:bs.length≤1073741824):Ctr Tryz.prog 153 [.c (.ro bs.length 1 (bytC bs)),.c (.v (.int .i64 at_))] [] (.tu [.c (.v (.int .i64 (getU bs at_).1)),.c (.v (.int .i64 (getU bs at_).2.1)),.c (.v (.bool (getU bs at_).2.2))]) []:=by
 refine zs7 (by kernel_rfl) (fun w=>vrf_3 rfl rfl rfl) fun w St φ K us h=>?_
 simp only [VRL] at h
 obtain⟨u,us1,rfl,h1,u2,us2,rfl,h2,rfl⟩:=h
 obtain⟨A,c,rfl,hrd⟩:=za19 h1
 simp only [VR,CR] at h2
 obtain⟨rfl,-⟩:=h2
 refine (zc3 A bs.length c bs at_ w hrd hat hn).mono ?_
 rintro e w' ⟨rfl,h⟩
 exact⟨rfl,by first|exact h|(subst h;exact Below.refl _ _)⟩
theorem zp15 {bs:List UInt8}(at_:Int)(hat : -9223372036854775808≤at_∧at_≤9223372036854775807)(hn:bs.length≤1073741824):Ctr Tryz.prog 155 [.c (.ro bs.length 1 (bytC bs)),.c (.v (.int .i64 at_))] [] (.tu [.ag [.v (.int .i64 (getIns bs at_).o),.v (.int .i64 (getIns bs at_).n)],.c (.v (.int .i64 (getIns bs at_).p)),.c (.v (.bool (getIns bs at_).ok))]) []:=by
 refine zs7 (by kernel_rfl) (fun w=>vrf_ins) fun w St φ K us h=>?_
 simp only [VRL] at h
 obtain⟨u,us1,rfl,h1,u2,us2,rfl,h2,rfl⟩:=h
 obtain⟨A,c,rfl,hrd⟩:=za19 h1
 simp only [VR,CR] at h2
 obtain⟨rfl,-⟩:=h2
 refine (zd12 A bs.length c bs at_ w hrd hat hn).mono ?_
 rintro e w' ⟨rfl,h⟩
 exact⟨rfl,by first|exact h|(subst h;exact Below.refl _ _)⟩
theorem zv20 {bs:List UInt8}(at_:Int)(hat : -9223372036854775808≤at_∧at_≤9223372036854775807)(hn:bs.length≤1073741824):Ctr Tryz.prog 149 [.c (.ro bs.length 1 (bytC bs)),.c (.v (.int .i64 at_))] [] (.tu [.c (.v (.int .i64 (getU bs at_).1)),.c (.v (.int .i64 (getU bs at_).2.1)),.c (.v (.bool (getU bs at_).2.2))]) []:=by
 refine zs7 (by kernel_rfl) (fun w=>vrf_3 rfl rfl rfl) fun w St φ K us h=>?_
 simp only [VRL] at h
 obtain⟨u,us1,rfl,h1,u2,us2,rfl,h2,rfl⟩:=h
 obtain⟨A,c,rfl,hrd⟩:=za19 h1
 simp only [VR,CR] at h2
 obtain⟨rfl,-⟩:=h2
 refine (zt2 A bs.length c bs at_ w hrd hat hn).mono ?_
 rintro e w' ⟨rfl,h⟩
 exact⟨rfl,by first|exact h|(subst h;exact Below.refl _ _)⟩
theorem zq15 {bs:List UInt8}(at_:Int)(hat : -9223372036854775808≤at_∧at_≤9223372036854775807)(hn:bs.length≤1073741824):Ctr Tryz.prog 152 [.c (.ro bs.length 1 (bytC bs)),.c (.v (.int .i64 at_))] [] (.tu [.ag [.v (.int .i64 (getIns bs at_).o),.v (.int .i64 (getIns bs at_).n)],.c (.v (.int .i64 (getIns bs at_).p)),.c (.v (.bool (getIns bs at_).ok))]) []:=by
 refine zs7 (by kernel_rfl) (fun w=>vrf_ins) fun w St φ K us h=>?_
 simp only [VRL] at h
 obtain⟨u,us1,rfl,h1,u2,us2,rfl,h2,rfl⟩:=h
 obtain⟨A,c,rfl,hrd⟩:=za19 h1
 simp only [VR,CR] at h2
 obtain⟨rfl,-⟩:=h2
 refine (zc12 A bs.length c bs at_ w hrd hat hn).mono ?_
 rintro e w' ⟨rfl,h⟩
 exact⟨rfl,by first|exact h|(subst h;exact Below.refl _ _)⟩
structure GVal where
 k:Int
 n:Int
 s:ByteArray
structure GCell where
 refs:Int
 v:GVal
end Go.Proofs.YtghljnfbbaklnaaGreat
namespace Go.Proofs.YtghljnfbbaklnaaGreat
open Go.RowKit
end Go.Proofs.YtghljnfbbaklnaaGreat
