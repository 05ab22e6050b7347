/- T -/
import Derived.Orders
import Derived.Laws.Tables
import Derived.Laws.BytesArg
import Derived.Test.YtmnneflenebgmaaGreatCnOC
set_option maxHeartbeats 0
set_option maxRecDepth 100000
namespace Go.Proofs.YtmnneflenebgmaaGreat
open Go.RowKit Go.Proofs.Tryz
inductive AC where
 | v (x:Value)
 | ro (n k:Nat) (l:List AC)
 | ow (T:TypeId) (n k:Nat) (l:List AC)
 | sl (i n:Nat)
 | pt (i o:Nat)
 | rp (l:List AC) (o:Nat)
 | fn (f:FuncId) (c:List AC)
 | bx (T:TypeId) (l:List AC)
 | un
 | nn
 | mp (l:List (Value×Value))
inductive AV where
 | c (x:AC)
 | ag (l:List AC)
 | tu (l:List AV)
inductive Lc where
 | box (b lo:Nat)
 | slc (u:Value)
structure Row where
 T:TypeId
 k:Nat
 n:Nat
 box:Bool
 cs:List AC
theorem AC.ind {p:AC→Prop}(h1:∀x,p (.v x))(h2:∀n k l,(∀e∈l,p e)→p (.ro n k l))(h3:∀T n k l,(∀e∈l,p e)→p (.ow T n k l))(h4:∀i n,p (.sl i n))(h5:∀i o,p (.pt i o))
 (h6:∀l o,(∀e∈l,p e)→p (.rp l o)) (h7:∀f c,(∀e∈c,p e)→p (.fn f c)) (h9:∀T l,(∀e∈l,p e)→p (.bx T l)) (h8:p .un) (hn:p .nn) (hm:∀l,p (.mp l)):∀e,p e :=
 AC.rec (motive_1:=p) (motive_2:=fun l=>∀e∈l,p e) h1 (fun n k l h=>h2 n k l h) (fun T n k l h=>h3 T n k l h) h4 h5 (fun l o h=>h6 l o h) (fun f c h=>h7 f c h) (fun T l h=>h9 T l h) h8 hn (fun l=>hm l) (fun _ h=>absurd h List.not_mem_nil) (fun _ _ hh ht e he=>by
  rcases List.mem_cons.1 he with rfl|h
  ·exact hh
  ·exact ht e h)
def oY:Value→Bool
 | .bool _ | .int .. | .string _ | .slice none 0 0 | .pointer none | .nilFunc | .nilIface=>true
 | _=>false
theorem wI {x:Value}(h:oY x=true):x.oneCell'=true:=by
 cases x<;>first|rfl|simp [oY] at h
def obl (u:Value):List Nat:=match u.ownBlock with|some b=>[b]|none=>[]
mutual
def CR (w:World)(St:Nat→Prop)(φ:Nat→Lc)(K:Nat→Prop):AC→Value→List Nat→Prop
 | .v x,u,fp=>u=x∧oY x=true∧fp=[]
 | .ro n k l,u,fp=>fp=[]∧∃A c,u=.slice A n c∧(n≤c∧c≤maxLen∧(A=none→c=0))∧l.length=n*k ∧
  (0<n→∃b o us,A=some ⟨b,o,none⟩∧St b∧b<w.heap.size∧(∀i x,us[i]? = some x→w.cell? ⟨b,o+i,none⟩=some x)∧CRL w St φ K l us [])
 | .ow T n k l,u,fp=>∃us fs,CRL w St φ K l us fs∧w.ownsRow 0 T k u n us∧fp=obl u++fs
 | .sl i n,u,fp=>fp=[]∧K i∧φ i=.slc u∧∃A c,u=.slice A n c
 | .pt i o,u,fp=>fp=[]∧K i∧((∃b lo,φ i=.box b lo∧u=.pointer (some ⟨b,lo+o,none⟩))∨(∃b n c,φ i=.slc (.slice (some ⟨b,0,none⟩) n c)∧u=.pointer (some ⟨b,o,none⟩)))
 | .rp l o,u,fp=>fp=[]∧∃b p us,u=.pointer (some ⟨b,p+o,none⟩)∧St b∧b<w.heap.size∧(∀i x,us[i]? = some x→w.cell? ⟨b,p+i,none⟩=some x)∧CRL w St φ K l us []
 | .fn f c,u,fp=>fp=[]∧∃us,u=.func (.func f) #[] us.toArray∧CRL w St φ K c us []
 | .bx T l,u,fp=>∃b us fs,u=.pointer (some ⟨b,0,none⟩)∧w.heap[b]? = some (.cells us.toArray T (0,0))∧CRL w St φ K l us fs∧fp=b :: fs
 | .un,_,fp=>fp=[]
 | .nn,u,fp=>fp=[]∧∃t p,u=.iface t p
 | .mp l,u,fp=>fp=[]∧∃b es ck,u=.map (some b)∧St b∧b<w.heap.size∧w.heap[b]? = some (.map es ck)∧es.toList.map (fun e=>(e.key,e.val))=l
def CRL (w:World)(St:Nat→Prop)(φ:Nat→Lc)(K:Nat→Prop):List AC→List Value→List Nat→Prop
 | [],us,fp=>us=[]∧fp=[]
 | c :: r,us,fp=>∃u us' f f',us=u :: us'∧fp=f++f'∧CR w St φ K c u f∧CRL w St φ K r us' f'
end
section
variable {w w':World}{St St':Nat→Prop}{φ φ':Nat→Lc}{K K':Nat→Prop}
theorem CRL.nil:CRL w St φ K [] [] []:=by simp [CRL]
theorem CRL.cons {c:AC}{u:Value}{f f':List Nat}{r:List AC}{us:List Value}(h:CR w St φ K c u f)(h':CRL w St φ K r us f'):CRL w St φ K (c :: r) (u :: us) (f++f'):=by
 simp only [CRL];exact⟨u,us,f,f',rfl,rfl,h,h'⟩
theorem CRL.len:∀{l:List AC} {us:List Value} {fp:List Nat},CRL w St φ K l us fp→us.length=l.length
 | [],us,fp,h=>by simp only [CRL] at h;simp [h.1]
 | c :: r,us,fp,h=>by
  simp only [CRL] at h
  obtain⟨u,us',f,f',rfl,_,_,h2⟩:=h
  simp [h2.len]
theorem CRL.app:∀{l r:List AC} {us vs:List Value} {f f':List Nat},CRL w St φ K l us f→CRL w St φ K r vs f'→CRL w St φ K (l++r) (us++vs) (f++f')
 | [],r,us,vs,f,f',h,h'=>by
  simp only [CRL] at h
  obtain⟨rfl,rfl⟩:=h
  exact h'
 | c :: l,r,us,vs,f,f',h,h'=>by
  simp only [CRL] at h
  obtain⟨u,us',f1,f2,rfl,rfl,h1,h2⟩:=h
  rw [List.append_assoc]
  exact CRL.cons h1 (h2.app h')
theorem CRL.split:∀{l r:List AC} {us:List Value} {fp:List Nat},CRL w St φ K (l++r) us fp→∃us1 us2 f1 f2,us=us1++us2∧fp=f1++f2∧CRL w St φ K l us1 f1∧CRL w St φ K r us2 f2
 | [],r,us,fp,h=>⟨[],us,[],fp,rfl,rfl,CRL.nil,h⟩
 | c :: l,r,us,fp,h=>by
  simp only [List.cons_append,CRL] at h
  obtain⟨u,us',f1,f2,rfl,rfl,h1,h2⟩:=h
  obtain⟨us1,us2,g1,g2,rfl,rfl,h3,h4⟩:=h2.split
  exact⟨u :: us1,us2,f1++g1,g2,rfl,by simp,CRL.cons h1 h3,h4⟩
theorem CRL.imp {w':World}{St':Nat→Prop}{φ':Nat→Lc}{K':Nat→Prop}:∀{l:List AC} {us:List Value} {fp:List Nat},(∀c∈l,∀u f,(∀b∈f,b∈fp)→CR w St φ K c u f→CR w' St' φ' K' c u f)→CRL w St φ K l us fp→CRL w' St' φ' K' l us fp
 | [],us,fp,_,h=>by simp only [CRL] at h ⊢;exact h
 | c :: l,us,fp,hh,h=>by
  simp only [CRL] at h
  obtain⟨u,us',f1,f2,rfl,rfl,h1,h2⟩:=h
  exact CRL.cons (hh c List.mem_cons_self u f1 (fun b hb=>List.mem_append_left _ hb) h1) (CRL.imp (fun d hd u f hf=>hh d (List.mem_cons_of_mem _ hd) u f fun b hb=>List.mem_append_right _ (hf b hb)) h2)
theorem lE {w w':World}{T:TypeId}{k n:Nat}{u:Value}{us:List Value}(h:w.ownsRow 0 T k u n us)(hb:∀b∈obl u,w'.heap[b]? = w.heap[b]?):w'.ownsRow 0 T k u n us:=by
 obtain⟨hl,h|⟨b,cap,cur,rfl,hg,hh,hr⟩⟩:=h
 ·exact⟨hl,.inl h⟩
 ·exact⟨hl,.inr ⟨b,cap,cur,rfl,hg,(hb b (by simp [obl,Value.ownBlock])).trans hh,hr⟩⟩
theorem j0 {w w':World}{b o:Nat}{us:List Value}(hb:w'.heap[b]? = w.heap[b]?)(h:∀i x,us[i]? = some x→w.cell? ⟨b,o+i,none⟩=some x):∀i x,us[i]? = some x→w'.cell? ⟨b,o+i,none⟩=some x :=
 fun i x hx=>(World.cell?_of_block (a:=⟨b,o+i,none⟩) hb).trans (h i x hx)
theorem CR.mono (hS:∀b,St b→b<w.heap.size→St' b∧w'.heap[b]? = w.heap[b]?)(hz:w.heap.size≤w'.heap.size)(hK:∀i,K i→K' i∧φ' i=φ i) :
 ∀c u fp,(∀b∈fp,w'.heap[b]? = w.heap[b]?)→CR w St φ K c u fp→CR w' St' φ' K' c u fp:=by
 intro c
 induction c using AC.ind with
 | h1 x=>intro u fp _ h;simp only [CR] at h ⊢;exact h
 | h2 n k l ih =>
  intro u fp _ h
  simp only [CR] at h ⊢
  obtain⟨h0,A,c,h1,h2,h3,h4⟩:=h
  refine⟨h0,A,c,h1,h2,h3,fun hn=>?_⟩
  obtain⟨b,o,us,e1,e2,e3,e4,e5⟩:=h4 hn
  obtain⟨s1,s2⟩:=hS b e2 e3
  exact⟨b,o,us,e1,s1,omq,j0 s2 e4,e5.imp fun d hd u f hf hc=>ih d hd u f (fun b hb=>absurd (hf b hb) List.not_mem_nil) hc⟩
 | h3 T n k l ih =>
  intro u fp hfp h
  simp only [CR] at h ⊢
  obtain⟨us,fs,h1,h2,rfl⟩:=h
  exact⟨us,fs,h1.imp fun d hd u f hf hc=>ih d hd u f (fun b hb=>hfp b (List.mem_append_right _ (hf b hb))) hc,lE h2 fun b hb=>hfp b (List.mem_append_left _ hb),rfl⟩
 | h4 i n=>intro u fp _ h;simp only [CR] at h ⊢;obtain⟨h0,h1,h2,h3⟩:=h;exact⟨h0,(hK i h1).1,(hK i h1).2.trans h2,h3⟩
 | h5 i o =>
  intro u fp _ h
  simp only [CR] at h ⊢
  obtain⟨h0,h1,h2⟩:=h
  rw [(hK i h1).2]
  exact⟨h0,(hK i h1).1,h2⟩
 | h6 l o ih =>
  intro u fp _ h
  simp only [CR] at h ⊢
  obtain⟨h0,b,p,us,e1,e2,e3,e4,e5⟩:=h
  obtain⟨s1,s2⟩:=hS b e2 e3
  exact⟨h0,b,p,us,e1,s1,omq,j0 s2 e4,e5.imp fun d hd u f hf hc=>ih d hd u f (fun b hb=>absurd (hf b hb) List.not_mem_nil) hc⟩
 | h7 f c ih =>
  intro u fp _ h
  simp only [CR] at h ⊢
  obtain⟨h0,us,e1,e2⟩:=h
  exact⟨h0,us,e1,e2.imp fun d hd u f hf hc=>ih d hd u f (fun b hb=>absurd (hf b hb) List.not_mem_nil) hc⟩
 | h9 T l ih =>
  intro u fp hfp h
  simp only [CR] at h ⊢
  obtain⟨b,us,fs,e1,e2,e3,rfl⟩:=h
  exact⟨b,us,fs,e1,(hfp b List.mem_cons_self).trans e2,e3.imp fun d hd u f hf hc=>ih d hd u f (fun b hb=>hfp b (List.mem_cons_of_mem _ (hf b hb))) hc,rfl⟩
 | h8=>intro u fp _ h;simp only [CR] at h ⊢;exact h
 | hn=>intro u fp _ h;simp only [CR] at h ⊢;exact h
 | hm l =>
  intro u fp _ h
  simp only [CR] at h ⊢
  obtain⟨h0,b,es,ck,e1,e2,e3,e4,e5⟩:=h
  obtain⟨s1,s2⟩:=hS b e2 e3
  exact⟨h0,b,es,ck,e1,s1,omq,s2.trans e4,e5⟩
theorem CRL.mono (hS:∀b,St b→b<w.heap.size→St' b∧w'.heap[b]? = w.heap[b]?)(hz:w.heap.size≤w'.heap.size)(hK:∀i,K i→K' i∧φ' i=φ i){l:List AC}{us:List Value}{fp:List Nat}
 (hfp:∀b∈fp,w'.heap[b]? = w.heap[b]?) (h:CRL w St φ K l us fp):CRL w' St' φ' K' l us fp :=
 h.imp fun c _ u f hf hc=>CR.mono hS hz hK c u f (fun b hb=>hfp b (hf b hb)) hc
theorem CR.one:∀{c:AC} {u:Value} {fp:List Nat},c≠.un→CR w St φ K c u fp→u.oneCell'=true:=by
 intro c u fp hc h
 cases c<;>simp only [CR] at h
 ·obtain⟨rfl,h,_⟩:=h;exact wI h
 ·obtain⟨_,A,c,rfl,_⟩:=h;rfl
 ·obtain⟨us,fs,_,⟨_,⟨rfl,_⟩|⟨b,cap,cur,rfl,_⟩⟩,_⟩:=h<;>rfl
 ·obtain⟨_,_,_,A,c,rfl⟩:=h;rfl
 ·obtain⟨_,_,⟨b,lo,_,rfl⟩|⟨b,n,c,_,rfl⟩⟩:=h<;>rfl
 ·obtain⟨_,b,p,us,rfl,_⟩:=h;rfl
 ·obtain⟨_,us,rfl,_⟩:=h;rfl
 ·obtain⟨b,us,fs,rfl,_⟩:=h;rfl
 ·exact absurd rfl hc
 ·obtain⟨_,t,p,rfl⟩:=h;rfl
 ·obtain⟨_,b,es,ck,rfl,_⟩:=h;rfl
end
theorem CRL.lt_of {w:World}{St:Nat→Prop}{φ:Nat→Lc}{K:Nat→Prop}:∀(l:List AC) (us:List Value) (fs:List Nat),(∀e∈l,∀(u:Value) (fp:List Nat),CR w St φ K e u fp→∀b∈fp,b<w.heap.size)→CRL w St φ K l us fs→∀b∈fs,b<w.heap.size
 | [],us,fs,_,h=>by simp only [CRL] at h;obtain⟨_,rfl⟩:=h;simp
 | c :: r,us,fs,hh,h=>by
  simp only [CRL] at h
  obtain⟨u,us',f1,f2,rfl,rfl,g1,g2⟩:=h
  intro b hb
  rcases List.mem_append.1 hb with hb|hb
  ·exact hh c List.mem_cons_self u f1 g1 b hb
  ·exact CRL.lt_of r us' f2 (fun e he=>hh e (List.mem_cons_of_mem _ he)) g2 b hb
theorem CR.lt {w:World}{St:Nat→Prop}{φ:Nat→Lc}{K:Nat→Prop}:∀(c:AC) (u:Value) (fp:List Nat),CR w St φ K c u fp→∀b∈fp,b<w.heap.size:=by
 intro c
 induction c using AC.ind with
 | h1 x=>intro u fp h;simp only [CR] at h;obtain⟨_,_,rfl⟩:=h;simp
 | h2 n k l ih=>intro u fp h;simp only [CR] at h;obtain⟨rfl,_⟩:=h;simp
 | h3 T n k l ih =>
  intro u fp h b hb
  simp only [CR] at h
  obtain⟨us,fs,h1,h2,rfl⟩:=h
  rcases List.mem_append.1 hb with hb|hb
  ·refine (h2.lt b ?_).2
   unfold obl at hb
   cases e:u.ownBlock<;>simp [e] at hb
   rw [hb]
  ·exact CRL.lt_of l us fs ih h1 b hb
 | h4 i n=>intro u fp h;simp only [CR] at h;obtain⟨rfl,_⟩:=h;simp
 | h5 i o=>intro u fp h;simp only [CR] at h;obtain⟨rfl,_⟩:=h;simp
 | h6 l o ih=>intro u fp h;simp only [CR] at h;obtain⟨rfl,_⟩:=h;simp
 | h7 f c ih=>intro u fp h;simp only [CR] at h;obtain⟨rfl,_⟩:=h;simp
 | h9 T l ih =>
  intro u fp h b hb
  simp only [CR] at h
  obtain⟨g,us,fs,_,h1,h2,rfl⟩:=h
  rcases List.mem_cons.1 hb with rfl|hb
  ·exact (Array.getElem?_eq_some_iff.1 h1).1
  ·exact CRL.lt_of l us fs ih h2 b hb
 | h8=>intro u fp h;simp only [CR] at h;subst h;simp
 | hn=>intro u fp h;simp only [CR] at h;rw [h.1];simp
 | hm l=>intro u fp h;simp only [CR] at h;rw [h.1];simp
theorem CRL.lt {w:World}{St:Nat→Prop}{φ:Nat→Lc}{K:Nat→Prop}:∀{l:List AC} {us:List Value} {fp:List Nat},CRL w St φ K l us fp→∀b∈fp,b<w.heap.size
 | [],us,fp,h=>by simp only [CRL] at h;obtain⟨_,rfl⟩:=h;simp
 | c :: r,us,fp,h=>by
  simp only [CRL] at h
  obtain⟨u,us',f1,f2,rfl,rfl,g1,g2⟩:=h
  intro b hb
  rcases List.mem_append.1 hb with hb|hb
  ·exact CR.lt c u f1 g1 b hb
  ·exact CRL.lt g2 b hb
mutual
def VR (w:World)(St:Nat→Prop)(φ:Nat→Lc)(K:Nat→Prop):AV→Value→Prop
 | .c x,u=>CR w St φ K x u []
 | .ag l,u=>∃us,u=.agg us.toArray∧CRL w St φ K l us []
 | .tu l,u=>∃us,u=.tuple us.toArray∧VRL w St φ K l us
def VRL (w:World)(St:Nat→Prop)(φ:Nat→Lc)(K:Nat→Prop):List AV→List Value→Prop
 | [],us=>us=[]
 | c :: r,us=>∃u us',us=u :: us'∧VR w St φ K c u∧VRL w St φ K r us'
end
section
variable {w w':World}{St St':Nat→Prop}{φ φ':Nat→Lc}{K K':Nat→Prop}
mutual
theorem VR.mono (hS:∀b,St b→b<w.heap.size→St' b∧w'.heap[b]? = w.heap[b]?)(hz:w.heap.size≤w'.heap.size)(hK:∀i,K i→K' i∧φ' i=φ i):∀(x:AV) (u:Value),VR w St φ K x u→VR w' St' φ' K' x u
 | .c x,u,h=>by simp only [VR] at h ⊢;exact CR.mono hS hz hK x u [] (fun b hb=>absurd hb List.not_mem_nil) h
 | .ag l,u,h=>by
  simp only [VR] at h ⊢
  obtain⟨us,e,h⟩:=h
  exact⟨us,e,h.mono hS hz hK (fun b hb=>absurd hb List.not_mem_nil)⟩
 | .tu l,u,h=>by
  simp only [VR] at h ⊢
  obtain⟨us,e,h⟩:=h
  exact⟨us,e,VRL.mono hS hz hK l us h⟩
theorem VRL.mono (hS:∀b,St b→b<w.heap.size→St' b∧w'.heap[b]? = w.heap[b]?)(hz:w.heap.size≤w'.heap.size)(hK:∀i,K i→K' i∧φ' i=φ i):∀(l:List AV) (us:List Value),VRL w St φ K l us→VRL w' St' φ' K' l us
 | [],us,h=>by simp only [VRL] at h ⊢;exact h
 | c :: r,us,h=>by
  simp only [VRL] at h ⊢
  obtain⟨u,us',e,h1,h2⟩:=h
  exact⟨u,us',e,VR.mono hS hz hK c u h1,VRL.mono hS hz hK r us' h2⟩
end
end
def BoxAt (w:World)(b lo:Nat)(us:List Value):Prop:=∃cs T,w.heap[b]? = some (.cells cs T (0,0))∧∀j x,us[j]? = some x→cs[lo+j]? = some x
def RowOk (w:World)(St:Nat→Prop)(φ:Nat→Lc)(K:Nat→Prop)(r:Row)(fp:List Nat):Lc→Prop
 | .box b lo=>r.box=true∧∃us,CRL w St φ K r.cs us fp∧BoxAt w b lo us
 | .slc u=>r.box=false∧∃us fs,CRL w St φ K r.cs us fs∧w.ownsRow 0 r.T r.k u r.n us∧fp=obl u++fs
theorem BoxAt.block {w w':World}{b lo:Nat}{us:List Value}(h:BoxAt w b lo us)(hb:w'.heap[b]? = w.heap[b]?):BoxAt w' b lo us:=by
 obtain⟨cs,T,h1,h2⟩:=h
 exact⟨cs,T,hb.trans h1,h2⟩
theorem BoxAt.cell {w:World}{b lo:Nat}{us:List Value}(h:BoxAt w b lo us){j:Nat}{x:Value}(hx:us[j]? = some x):w.cell? ⟨b,lo+j,none⟩=some x:=by
 obtain⟨cs,T,h1,h2⟩:=h
 rw [cell_of_row _ _ _ _ _ _ h1];exact h2 j x hx
theorem BoxAt.lt {w:World}{b lo:Nat}{us:List Value}(h:BoxAt w b lo us):b<w.heap.size:=by
 obtain⟨cs,T,h1,_⟩:=h
 exact (Array.getElem?_eq_some_iff.1 h1).1
structure AS where
 tm:Nat→AV
 hp:Nat→Option Row
 gn:Nat
 us:List Nat
 L:Nat
def upd {α:Type}(f:Nat→α)(i:Nat)(x:α):Nat→α:=fun j=>match Nat.beq j i with|true=>x|false=>f j
theorem aX {α:Type}(f:Nat→α)(i:Nat)(x:α):upd f i x i=x:=by unfold upd;rw [Nat.beq_refl]
theorem bh {α:Type}(f:Nat→α){i j:Nat}(x:α)(h:j≠i):upd f i x j=f j:=by
 have e:Nat.beq j i=false:=by cases hb:Nat.beq j i with|false=>rfl|true=>exact absurd (Nat.eq_of_beq_eq_true hb) h
 unfold upd;rw [e]
def AS.put (σ:AS)(dst:Option Nat)(x:AV):AS :=
 match dst with
 | some d=>if d<σ.L then { σ with tm:=upd σ.tm d x } else σ
 | none=>σ
def AS.Kn (σ:AS)(i:Nat):Prop:=i<σ.gn∨i∈σ.us
structure Ctx where
 w0:World
 N:Nat
 pl:Nat→Nat×Nat
 M:Nat→Prop
 R:Nat→Nat→Prop
 S0:Nat→Prop
def LikeBut (R:Nat→Prop)(x y:Option Obj):Prop :=
 y=x∨∃c c' e,x=some (.cells c e (0,0))∧y=some (.cells c' e (0,0))∧c'.size=c.size∧∀o,¬R o→c'[o]? = c[o]?
theorem LikeBut.trans {R:Nat→Prop}{x y z:Option Obj}(h:LikeBut R x y)(h':LikeBut R y z):LikeBut R x z:=by
 rcases h with rfl|⟨c,c',e,rfl,rfl,h1,h2⟩
 ·exact h'
 ·rcases h' with rfl|⟨d,d',e',h3,rfl,h4,h5⟩
  ·exact .inr ⟨c,c',e,rfl,rfl,h1,h2⟩
  ·injection h3 with h3
   injection h3 with h3 h3'
   subst h3 h3'
   exact .inr ⟨c,d',e,rfl,rfl,omq,fun o ho=>(h5 o ho).trans (h2 o ho)⟩
structure Fc (M:Nat→Prop)(R:Nat→Nat→Prop)(w w':World):Prop where
 os:w'.os=w.os
 tape:w'.tape=w.tape
 output:w'.output=w.output
 size:w.heap.size≤w'.heap.size
 blk:∀b,b<w.heap.size→¬M b→LikeBut (R b) w.heap[b]? w'.heap[b]?
theorem Fc.refl (M:Nat→Prop)(R:Nat→Nat→Prop)(w:World):Fc M R w w:=⟨rfl,rfl,rfl,Nat.le_refl _,fun _ _ _=>.inl rfl⟩
theorem Fc.trans {M:Nat→Prop}{R:Nat→Nat→Prop}{a b c:World}(h:Fc M R a b)(k:Fc M R b c):Fc M R a c :=
 ⟨k.os.trans h.os,k.tape.trans h.tape,k.output.trans h.output,Nat.le_trans h.size k.size,fun i hi hm=>(h.blk i hi hm).trans (k.blk i (Nat.lt_of_lt_of_le hi h.size) hm)⟩
structure Stp (b:Option Nat)(w w':World):Prop where
 os:w'.os=w.os
 tape:w'.tape=w.tape
 output:w'.output=w.output
 size:w.heap.size≤w'.heap.size
 blk:∀i,i<w.heap.size→some i≠b→w'.heap[i]? = w.heap[i]?
theorem Stp.refl (b:Option Nat)(w:World):Stp b w w:=⟨rfl,rfl,rfl,Nat.le_refl _,fun _ _ _=>rfl⟩
theorem Stp.of_grown {b:Option Nat}{w w':World}(h:w.grownBy w' b):Stp b w w':=⟨h.os,h.tape,h.output,h.size,h.block⟩
theorem Stp.alloc (w:World)(o:Obj)(b:Option Nat):Stp b w (w.alloc o):=.of_grown (World.grownBy_alloc w o b)
theorem Stp.drawn (w:World)(n:Nat)(b:Option Nat):Stp b w { w with drawn:=n }:=⟨rfl,rfl,rfl,Nat.le_refl _,fun _ _ _=>rfl⟩
theorem Stp.setRow (w:World)(g:Nat)(cs:Array Value):Stp (some g) w (w.setRow g cs) :=
 ⟨rfl,rfl,rfl,by simp,fun i _ hn=>setRow_other w g i cs (fun e=>hn (by rw [e]))⟩
def GlC (C:Ctx):Prop:=GlobOk C.w0∧∀b,isG b→¬C.M b∧∀o,¬C.R b o
structure SimF (C:Ctx)(φ:Nat→Lc)(F:Nat→List Nat)(St:Nat→Prop)(σ:AS)(a:Act)(w:World):Prop where
 dfr:a.defers=[]
 len:a.tmps.size=σ.L
 tms:∀t,VR w St φ σ.Kn (σ.tm t) (a.tmps.getD t undef)
 row:∀i r,σ.hp i=some r→σ.Kn i∧RowOk w St φ σ.Kn r (F i) (φ i)
 nod:∀i r,σ.hp i=some r→(F i).Nodup
 dis:∀i j r s,σ.hp i=some r→σ.hp j=some s→i≠j→∀b∈F i,b∉F j
 bxF:∀i j r s b lo,σ.hp i=some r→σ.hp j=some s→φ i=.box b lo→b∉F j
 bxd:∀i j r s b lo lo',σ.hp i=some r→σ.hp j=some s→i≠j→φ i=.box b lo→φ j=.box b lo'→lo+r.cs.length≤lo'∨lo'+s.cs.length≤lo
 stF:∀i r b,σ.hp i=some r→b∈F i→¬St b
 stB:∀i r b lo,σ.hp i=some r→φ i=.box b lo→¬St b
 frm:Fc C.M C.R C.w0 w
 own:∀i r b,σ.hp i=some r→b∈F i→C.M b∨C.w0.heap.size≤b
 par:∀i,i<C.N→φ i=.box (C.pl i).1 (C.pl i).2∧∀r,σ.hp i=some r→∀j,j<r.cs.length→C.R (C.pl i).1 ((C.pl i).2+j)
 new:∀i r b lo,σ.hp i=some r→φ i=.box b lo→C.N≤i→C.w0.heap.size≤b
 gnN:C.N≤σ.gn∧GlC C
 stS:∀b,St b→b<C.w0.heap.size→C.S0 b∨C.M b
def Sim (C:Ctx)(σ:AS)(a:Act)(w:World):Prop:=∃φ F St,SimF C φ F St σ a w
def Free (C:Ctx)(φ:Nat→Lc)(F:Nat→List Nat)(St:Nat→Prop)(σ:AS)(b:Nat):Prop :=
 (∀j s,σ.hp j=some s→b∉F j∧∀lo,φ j≠.box b lo)∧¬St b∧(C.M b∨C.w0.heap.size≤b)
section
variable {C:Ctx}{φ φ':Nat→Lc}{F:Nat→List Nat}{St:Nat→Prop}{σ:AS}{a:Act}{w w':World}
theorem jI {St:Nat→Prop}{φ:Nat→Lc}{K:Nat→Prop}(u:Value):VR w St φ K (.c .un) u:=by simp [VR,CR]
theorem SimF.put (h:SimF C φ F St σ a w)(dst:Option Nat){x:AV}{u:Value}(hx:VR w St φ σ.Kn x u):SimF C φ F St (σ.put dst x) (a.put dst u) w:=by
 rcases dst with _|d
 ·exact h
 ·unfold AS.put Act.put
  dsimp only
  by_cases hd:d<σ.L
  ·rw [if_pos hd]
   refine⟨h.dfr,by simpa using h.len,fun t=>?_,h.row,h.nod,h.dis,h.bxF,h.bxd,h.stF,h.stB,h.frm,h.own,h.par,h.new,h.gnN,h.stS⟩
   show VR w St φ σ.Kn (upd σ.tm d x t) _
   by_cases ht:t=d
   ·subst ht
    rw [aX]
    have:(a.tmps.setIfInBounds t u).getD t undef=u:=by simp [Array.getD,h.len,hd]
    rw [this];exact hx
   ·rw [bh _ _ ht]
    have:(a.tmps.setIfInBounds d u).getD t undef=a.tmps.getD t undef:=by
     have e:(a.tmps.setIfInBounds d u)[t]? = a.tmps[t]? := Array.getElem?_setIfInBounds_ne (Ne.symm ht)
     simp only [Array.getD_eq_getD_getElem?,e]
    rw [this];exact h.tms t
  ·rw [if_neg hd]
   have e:a.tmps.setIfInBounds d u=a.tmps:=by
    have:=h.len
    simp [Array.setIfInBounds,show ¬d<a.tmps.size by omega]
   rw [e];exact h
theorem RowOk.lt {K:Nat→Prop}{r:Row}{fp:List Nat}:∀{L:Lc},RowOk w St φ K r fp L→∀b∈fp,b<w.heap.size
 | .box b lo,h=>by obtain⟨_,us,h1,_⟩:=h;exact h1.lt
 | .slc u,h=>by
  obtain⟨_,us,fs,h1,h2,rfl⟩:=h
  intro b hb
  rcases List.mem_append.1 hb with hb|hb
  ·exact (h2.lt b (by unfold obl at hb;cases e:u.ownBlock<;>simp [e] at hb;rw [hb])).2
  ·exact h1.lt b hb
theorem RowOk.mono {St':Nat→Prop}{K K':Nat→Prop}{r:Row}{fp:List Nat}(hS:∀b,St b→b<w.heap.size→St' b∧w'.heap[b]? = w.heap[b]?)(hz:w.heap.size≤w'.heap.size)(hK:∀i,K i→K' i∧φ' i=φ i)
 (hfp:∀b∈fp,w'.heap[b]? = w.heap[b]?):∀{L:Lc},(∀b lo us,L=.box b lo→us.length=r.cs.length→BoxAt w b lo us→BoxAt w' b lo us)→RowOk w St φ K r fp L→RowOk w' St' φ' K' r fp L
 | .box b lo,hb,h=>by obtain⟨e,us,h1,h2⟩:=h;exact⟨e,us,h1.mono hS hz hK hfp,hb b lo us rfl h1.len h2⟩
 | .slc u,_,h=>by
  obtain⟨e,us,fs,h1,h2,rfl⟩:=h
  exact⟨e,us,fs,h1.mono hS hz hK fun b hb=>hfp b (List.mem_append_right _ hb),lE h2 fun b hb=>hfp b (List.mem_append_left _ hb),rfl⟩
theorem SimF.keep (h:SimF C φ F St σ a w)(hs:Stp none w w'):SimF C φ F St σ a w':=by
 have hS:∀b,St b→b<w.heap.size→St b∧w'.heap[b]? = w.heap[b]? := fun b hb hl=>⟨hb,hs.blk b hl (by simp)⟩
 have hK:∀i,σ.Kn i→σ.Kn i∧φ i=φ i:=fun i hi=>⟨hi,rfl⟩
 refine⟨h.dfr,h.len,fun t=>VR.mono hS hs.size hK _ _ (h.tms t),fun i r hr=>⟨(h.row i r hr).1,?_⟩,h.nod,h.dis,h.bxF,h.bxd,h.stF,h.stB,?_,h.own,h.par,h.new,h.gnN,h.stS⟩
 ·have h1:=(h.row i r hr).2
  exact h1.mono hS hs.size hK (fun b hb=>hs.blk b (h1.lt b hb) (by simp)) fun b lo us _ _ hB=>hB.block (hs.blk b hB.lt (by simp))
 ·exact h.frm.trans ⟨hs.os,hs.tape,hs.output,hs.size,fun b hb _=>.inl (hs.blk b hb (by simp))⟩
theorem SimF.setRow (h:SimF C φ F St σ a w){i:Nat}{r r':Row}(hr:σ.hp i=some r){b0:Nat}(hs:Stp (some b0) w w')(hb0:(∃lo,φ i=.box b0 lo)∨b0∈F i)(hlen:r'.cs.length=r.cs.length)
 {F':List Nat} (hn:RowOk w' St φ σ.Kn r' F' (φ i)) (hsub:∀b∈F',b∈F i∨Free C φ F St σ b) (hnd:F'.Nodup)
 (hoth:∀j s lo us,σ.hp j=some s→j≠i→φ j=.box b0 lo→us.length=s.cs.length→BoxAt w b0 lo us→BoxAt w' b0 lo us)
 (hfrm:b0<C.w0.heap.size→¬C.M b0→LikeBut (C.R b0) w.heap[b0]? w'.heap[b0]?) :
 SimF C φ (upd F i F') St { σ with hp:=upd σ.hp i (some r') } a w':=by
 have hnS:¬St b0:=by
  rcases hb0 with ⟨lo,e⟩|hb
  ·exact h.stB i r b0 lo hr e
  ·exact h.stF i r b0 hr hb
 have hnF:∀j s,σ.hp j=some s→j≠i→b0∉F j:=by
  intro j s hj hji
  rcases hb0 with ⟨lo,e⟩|hb
  ·exact h.bxF i j r s b0 lo hr hj e
  ·exact h.dis i j r s hr hj (Ne.symm hji) b0 hb
 have hS:∀b,St b→b<w.heap.size→St b∧w'.heap[b]? = w.heap[b]? := fun b hb hl=>⟨hb,hs.blk b hl (by intro e;injection e with e;subst e;exact hnS hb)⟩
 have hK:∀i,σ.Kn i→σ.Kn i∧φ i=φ i:=fun i hi=>⟨hi,rfl⟩
 have old:∀j s,upd σ.hp i (some r') j=some s→j≠i→σ.hp j=some s:=fun j s hj hji=>by rwa [bh _ _ hji] at hj
 have now:∀s,upd σ.hp i (some r') i=some s→r'=s:=fun s hj=>by rw [aX] at hj;injection hj
 refine⟨h.dfr,h.len,fun t=>VR.mono hS hs.size hK _ _ (h.tms t),fun j s hj=>?_,fun j s hj=>?_,fun j k s t hj hk hjk b hb=>?_,fun j k s t b lo hj hk e=>?_,fun j k s t b lo lo' hj hk hjk e e'=>?_,fun j s b hj hb=>?_,fun j s b lo hj e=>?_,?_,fun j s b hj hb=>?_,fun j hj=>⟨(h.par j hj).1,fun s hs'=>?_⟩,fun j s b lo hj e hN=>?_,h.gnN,h.stS⟩
 ·by_cases hji:j=i
  ·subst hji
   obtain rfl:=now s hj
   rw [aX]
   exact⟨(h.row j r hr).1,hn⟩
  ·have hj':=old j s hj hji
   rw [bh _ _ hji]
   have h1:=(h.row j s hj').2
   refine⟨(h.row j s hj').1,h1.mono hS hs.size hK (fun b hb=>hs.blk b (h1.lt b hb) (by intro e;injection e with e;subst e;exact hnF j s hj' hji hb)) fun b lo us e hl hB=>?_⟩
   by_cases hbb:b=b0
   ·subst hbb;exact hoth j s lo us hj' hji e hl hB
   ·exact hB.block (hs.blk b hB.lt (by intro e;injection e with e;exact hbb e))
 ·by_cases hji:j=i
  ·subst hji;rw [aX];exact hnd
  ·rw [bh _ _ hji];exact h.nod j s (old j s hj hji)
 ·by_cases hji:j=i
  ·subst hji
   have hki:k≠j:=Ne.symm hjk
   rw [aX] at hb;rw [bh _ _ hki]
   exact (hsub b hb).elim (h.dis j k r t hr (old k t hk hki) hjk b) fun hf=>(hf.1 k t (old k t hk hki)).1
  ·rw [bh _ _ hji] at hb
   by_cases hki:k=i
   ·subst hki
    rw [aX]
    exact fun hb'=>(hsub b hb').elim (h.dis j k s r (old j s hj hji) hr hjk b hb) fun hf=>(hf.1 j s (old j s hj hji)).1 hb
   ·rw [bh _ _ hki]
    exact h.dis j k s t (old j s hj hji) (old k t hk hki) hjk b hb
 ·have hj':∃s,σ.hp j=some s:=by
   by_cases hji:j=i
   ·subst hji;exact⟨r,hr⟩
   ·exact⟨s,old j s hj hji⟩
  obtain⟨s',hj'⟩:=hj'
  by_cases hki:k=i
  ·subst hki
   rw [aX]
   exact fun hb=>(hsub b hb).elim (h.bxF j k s' r b lo hj' hr e) fun hf=>(hf.1 j s' hj').2 lo e
  ·rw [bh _ _ hki]
   exact h.bxF j k s' t b lo hj' (old k t hk hki) e
 ·by_cases hji:j=i
  ·subst hji
   obtain rfl:=now s hj
   rw [hlen]
   exact h.bxd j k r t b lo lo' hr (old k t hk (Ne.symm hjk)) hjk e e'
  ·by_cases hki:k=i
   ·subst hki
    obtain rfl:=now t hk
    rw [hlen]
    exact h.bxd j k s r b lo lo' (old j s hj hji) hr hjk e e'
   ·exact h.bxd j k s t b lo lo' (old j s hj hji) (old k t hk hki) hjk e e'
 ·by_cases hji:j=i
  ·subst hji;rw [aX] at hb;exact (hsub b hb).elim (h.stF j r b hr) fun hf=>hf.2.1
  ·rw [bh _ _ hji] at hb;exact h.stF j s b (old j s hj hji) hb
 ·by_cases hji:j=i
  ·subst hji;exact h.stB j r b lo hr e
  ·exact h.stB j s b lo (old j s hj hji) e
 ·have hf:=h.frm
  refine⟨hs.os.trans hf.os,hs.tape.trans hf.tape,hs.output.trans hf.output,Nat.le_trans hf.size hs.size,fun b hb hM=>(hf.blk b hb hM).trans ?_⟩
  by_cases hbb:b=b0
  ·subst hbb;exact hfrm hb hM
  ·exact .inl (hs.blk b (Nat.lt_of_lt_of_le hb hf.size) (by intro e;injection e with e;exact hbb e))
 ·by_cases hji:j=i
  ·subst hji;rw [aX] at hb;exact (hsub b hb).elim (h.own j r b hr) fun hf=>hf.2.2
  ·rw [bh _ _ hji] at hb;exact h.own j s b (old j s hj hji) hb
 ·by_cases hji:j=i
  ·subst hji
   obtain rfl:=now s hs'
   rw [hlen]
   exact (h.par j hj).2 r hr
  ·exact (h.par j hj).2 s (old j s hs' hji)
 ·by_cases hji:j=i
  ·subst hji;exact h.new j r b lo hr e hN
  ·exact h.new j s b lo (old j s hj hji) e hN
theorem SimF.newRow (h:SimF C φ F St σ a w){i:Nat}(hg:σ.gn≤i)(hu:i∉σ.us){b0:Option Nat}(hs:Stp b0 w w')(hb0:∀b,b0=some b→Free C φ F St σ b){r:Row}{L:Lc}{fp:List Nat}
 (hn:∀St' φ',(∀b,St b→b<w.heap.size→St' b∧w'.heap[b]? = w.heap[b]?)→(∀j,σ.Kn j→φ' j=φ j)→RowOk w' St' φ' (fun j=>j<σ.gn∨j∈i :: σ.us) r fp L)
 (hnd:fp.Nodup) (hfp:∀b∈fp,w.heap.size≤b∨Free C φ F St σ b) (hbx:∀b lo,L=.box b lo→w.heap.size≤b∧b∉fp) :
 SimF C (upd φ i L) (upd F i fp) (fun b=>St b∧b<w.heap.size) { σ with hp:=upd σ.hp i (some r),us:=i :: σ.us } a w':=by
 have hnk:¬σ.Kn i:=fun hk=>hk.elim (fun h1=>absurd h1 omq) hu
 have hφ:∀j,σ.Kn j→upd φ i L j=φ j:=fun j hj=>bh _ _ (by rintro rfl;exact hnk hj)
 have hnone:σ.hp i=none:=by
  cases e:σ.hp i with
  | none=>rfl
  | some s=>exact absurd (h.row i s e).1 hnk
 have hS:∀b,St b→b<w.heap.size→(St b∧b<w.heap.size)∧w'.heap[b]? = w.heap[b]? := fun b hb hl=>⟨⟨hb,hl⟩,hs.blk b hl fun e=>(hb0 b e.symm).2.1 hb⟩
 have hK:∀j,σ.Kn j→(j<σ.gn∨j∈i :: σ.us)∧upd φ i L j=φ j:=fun j hj=>⟨hj.imp id (List.mem_cons_of_mem _),hφ j hj⟩
 have old:∀j s,upd σ.hp i (some r) j=some s→j≠i→σ.hp j=some s:=fun j s hj hji=>by rwa [bh _ _ hji] at hj
 have now:∀s,upd σ.hp i (some r) i=some s→r=s:=fun s hj=>by rw [aX] at hj;injection hj
 have ltF:∀j s b,σ.hp j=some s→b∈F j→b<w.heap.size:=fun j s b hj hb=>(h.row j s hj).2.lt b hb
 have ltB:∀j s b lo,σ.hp j=some s→φ j=.box b lo→b<w.heap.size:=fun j s b lo hj e=>by
  have h1:=(h.row j s hj).2
  rw [e] at h1
  obtain⟨_,us,_,h2⟩:=h1
  exact h2.lt
 have hkk:∀j s,σ.hp j=some s→σ.Kn j:=fun j s hj=>(h.row j s hj).1
 refine⟨h.dfr,h.len,fun t=>VR.mono hS hs.size hK _ _ (h.tms t),fun j s hj=>?_,fun j s hj=>?_,fun j k s t hj hk hjk b hb=>?_,fun j k s t b lo hj hk e=>?_,fun j k s t b lo lo' hj hk hjk e e'=>?_,fun j s b hj hb=>?_,fun j s b lo hj e=>?_,?_,fun j s b hj hb=>?_,fun j hj=>?_,fun j s b lo hj e hN=>?_,h.gnN,fun b hb=>h.stS b hb.1⟩
 ·by_cases hji:j=i
  ·subst hji
   obtain rfl:=now s hj
   simp only [aX]
   exact⟨.inr List.mem_cons_self,hn _ _ hS hφ⟩
  ·have hj':=old j s hj hji
   simp only [bh _ _ hji]
   have h1:=(h.row j s hj').2
   exact⟨(hK j (hkk j s hj')).1,h1.mono hS hs.size hK (fun b hb=>hs.blk b (h1.lt b hb) fun e=>((hb0 b e.symm).1 j s hj').1 hb) fun b lo us e' _ hB=>hB.block (hs.blk b hB.lt fun e=>((hb0 b e.symm).1 j s hj').2 lo e')⟩
 ·by_cases hji:j=i
  ·subst hji;simp only [aX];exact hnd
  ·simp only [bh _ _ hji];exact h.nod j s (old j s hj hji)
 ·by_cases hji:j=i
  ·subst hji
   have hki:k≠j:=Ne.symm hjk
   simp only [aX] at hb;simp only [bh _ _ hki]
   exact fun hb'=>(hfp b hb).elim (fun h1=>by have:=ltF k t b (old k t hk hki) hb';omega) fun hf=>(hf.1 k t (old k t hk hki)).1 hb'
  ·simp only [bh _ _ hji] at hb
   have hj':=old j s hj hji
   by_cases hki:k=i
   ·subst hki
    simp only [aX]
    exact fun hb'=>(hfp b hb').elim (fun h1=>by have:=ltF j s b hj' hb;omega) fun hf=>(hf.1 j s hj').1 hb
   ·simp only [bh _ _ hki]
    exact h.dis j k s t hj' (old k t hk hki) hjk b hb
 ·by_cases hji:j=i
  ·subst hji
   simp only [aX] at e
   by_cases hki:k=j
   ·subst hki;simp only [aX];exact (hbx b lo e).2
   ·simp only [bh _ _ hki]
    exact fun hb'=>by have:=ltF k t b (old k t hk hki) hb';have:=(hbx b lo e).1;omega
  ·simp only [bh _ _ hji] at e
   have hj':=old j s hj hji
   by_cases hki:k=i
   ·subst hki
    simp only [aX]
    exact fun hb'=>(hfp b hb').elim (fun h1=>by have:=ltB j s b lo hj' e;omega) fun hf=>(hf.1 j s hj').2 lo e
   ·simp only [bh _ _ hki]
    exact h.bxF j k s t b lo hj' (old k t hk hki) e
 ·by_cases hji:j=i
  ·subst hji
   have hki:k≠j:=Ne.symm hjk
   simp only [aX] at e;simp only [bh _ _ hki] at e'
   have:=ltB k t b lo' (old k t hk hki) e'
   have:=(hbx b lo e).1
   omega
  ·simp only [bh _ _ hji] at e
   by_cases hki:k=i
   ·subst hki
    simp only [aX] at e'
    have:=ltB j s b lo (old j s hj hji) e
    have:=(hbx b lo' e').1
    omega
   ·simp only [bh _ _ hki] at e'
    exact h.bxd j k s t b lo lo' (old j s hj hji) (old k t hk hki) hjk e e'
 ·by_cases hji:j=i
  ·subst hji;simp only [aX] at hb;exact fun hst=>(hfp b hb).elim (fun h1=>by have:=hst.2;omega) fun hf=>hf.2.1 hst.1
  ·simp only [bh _ _ hji] at hb;exact fun hst=>h.stF j s b (old j s hj hji) hb hst.1
 ·by_cases hji:j=i
  ·subst hji;simp only [aX] at e;exact fun hst=>by have:=(hbx b lo e).1;have:=hst.2;omega
  ·simp only [bh _ _ hji] at e;exact fun hst=>h.stB j s b lo (old j s hj hji) e hst.1
 ·have hf:=h.frm
  refine⟨hs.os.trans hf.os,hs.tape.trans hf.tape,hs.output.trans hf.output,Nat.le_trans hf.size hs.size,fun b hb hM=>(hf.blk b hb hM).trans (.inl (hs.blk b (Nat.lt_of_lt_of_le hb hf.size) fun e=>?_))⟩
  rcases (hb0 b e.symm).2.2 with h1|h1
  ·exact hM h1
  ·omega
 ·by_cases hji:j=i
  ·subst hji;simp only [aX] at hb;exact (hfp b hb).elim (fun h1=>.inr (Nat.le_trans h.frm.size h1)) fun hf=>hf.2.2
  ·simp only [bh _ _ hji] at hb;exact h.own j s b (old j s hj hji) hb
 ·have hji:j≠i:=by have:=h.gnN.1;omega
  simp only [bh _ _ hji]
  exact⟨(h.par j hj).1,fun s hs'=>(h.par j hj).2 s hs'⟩
 ·by_cases hji:j=i
  ·subst hji;simp only [aX] at e;exact Nat.le_trans h.frm.size (hbx b lo e).1
  ·simp only [bh _ _ hji] at e;exact h.new j s b lo (old j s hj hji) e hN
theorem SimF.drop (h:SimF C φ F St σ a w)(i:Nat):SimF C φ F St { σ with hp:=upd σ.hp i none } a w:=by
 have old:∀j s,upd σ.hp i none j=some s→σ.hp j=some s:=fun j s hj=>by
  by_cases hji:j=i
  ·subst hji;rw [aX] at hj;cases hj
  ·rwa [bh _ _ hji] at hj
 exact⟨h.dfr,h.len,h.tms,fun j s hj=>h.row j s (old j s hj),fun j s hj=>h.nod j s (old j s hj),fun j k s t hj hk=>h.dis j k s t (old j s hj) (old k t hk),fun j k s t b lo hj hk=>h.bxF j k s t b lo (old j s hj) (old k t hk),
  fun j k s t b lo lo' hj hk=>h.bxd j k s t b lo lo' (old j s hj) (old k t hk),fun j s b hj=>h.stF j s b (old j s hj),fun j s b lo hj=>h.stB j s b lo (old j s hj),h.frm,fun j s b hj=>h.own j s b (old j s hj),
  fun j hj=>⟨(h.par j hj).1,fun s hs=>(h.par j hj).2 s (old j s hs)⟩,fun j s b lo hj=>h.new j s b lo (old j s hj),h.gnN,h.stS⟩
theorem SimF.free (h:SimF C φ F St σ a w){i:Nat}{r:Row}(hr:σ.hp i=some r){b:Nat}(hb:b∈F i):Free C φ F St { σ with hp:=upd σ.hp i none } b:=by
 refine⟨fun j s hj=>?_,h.stF i r b hr hb,h.own i r b hr hb⟩
 by_cases hji:j=i
 ·subst hji
  have hj':upd σ.hp j none j=some s:=hj
  rw [aX] at hj';cases hj'
 ·have hj':upd σ.hp i none j=some s:=hj
  rw [bh _ _ hji] at hj'
  exact⟨h.dis i j r s hr hj' (Ne.symm hji) b hb,fun lo e=>h.bxF j i s r b lo hj' hr e hb⟩
end
def Semval {α:Type}(P:Program):Sem α→Option α
 | .pure a=>some a
 | .program k=>Semval P (k P)
 | .mark _ k=>Semval P k
 | _=>none
theorem ry {α:Type}{P:Program}{s:Sem α}{a:α}(w:World)(h:Semval P s=some a):s.run P w=.ok a w:=by
 induction s with
 | pure b=>simp only [Semval,Option.some.injEq] at h;subst h;rfl
 | program k ih=>simp only [Semval] at h;exact ih P h
 | mark m k ih=>simp only [Semval] at h;exact ih h
 | _=>simp [Semval] at h
def ofC (v:Value):AC:=if oY v then .v v else .un
def ofV:Value→AV
 | .agg cs=>.ag (cs.toList.map ofC)
 | v=>.c (ofC v)
def AS.ev (σ:AS):Operand→AV
 | .tmp t=>σ.tm t
 | .const v=>ofV v
 | .global _=>.c .un
 | .func f=>.c (.fn f [])
def AC.val? : AC→Option Value
 | .v x=>some x
 | _=>none
def valL:List AC→Option (List Value)
 | []=>some []
 | .v x :: r=>(valL r).map (x :: ·)
 | _ :: _=>none
def AV.val? : AV→Option Value
 | .c (.v x)=>some x
 | .ag l=>(valL l).map fun us=>.agg us.toArray
 | _=>none
def AV.cells:AV→Option (List AC)
 | .c .un=>none
 | .c x=>some [x]
 | .ag l=>some l
 | .tu _=>none
def aggD:TypeDesc→Bool
 | .struct _ | .array _ _=>true
 | _=>false
def ld:AC→AC
 | .ow ..=>.un
 | .bx ..=>.un
 | c=>c
def ww (P:Program)(t:TypeId)(cs:List AC):Option AV :=
 match P.underlying t,P.info? t with
 | some d,some i=>if cs.length=i.size then (if aggD d then some (.ag (cs.map ld)) else match cs with|[c]=>some (.c (ld c))|_=>none) else none
 | _,_=>none
section
variable {P:Program}{w:World}{St:Nat→Prop}{φ:Nat→Lc}{K:Nat→Prop}
theorem yO (v:Value):CR w St φ K (ofC v) v []:=by
 unfold ofC
 split
 ·simp only [CR];exact⟨trivial,by assumption,trivial⟩
 ·simp [CR]
theorem j3:∀us:List Value,CRL w St φ K (us.map ofC) us []
 | []=>CRL.nil
 | u :: us=>CRL.cons (f:=[]) (yO u) (j3 us)
theorem yP (v:Value):VR w St φ K (ofV v) v:=by
 unfold ofV
 split
 ·rename_i cs;simp only [VR];exact⟨cs.toList,by simp,j3 _⟩
 ·simp only [VR];exact yO _
theorem ta:∀{l:List AC} {us vs:List Value} {fp:List Nat},valL l=some vs→CRL w St φ K l us fp→us=vs
 | [],us,vs,fp,h,h'=>by simp only [valL,Option.some.injEq] at h;simp only [CRL] at h';rw [h'.1,←h]
 | .v x :: r,us,vs,fp,h,h'=>by
  simp only [valL,Option.map_eq_some_iff] at h
  obtain⟨vs',h1,rfl⟩:=h
  simp only [CRL,CR] at h'
  obtain⟨u,us',f1,f2,rfl,_,⟨rfl,_,_⟩,h4⟩:=h'
  rw [ta h1 h4]
 | .ro .. :: _,_,_,_,h,_ | .ow .. :: _,_,_,_,h,_ | .sl .. :: _,_,_,_,h,_ | .pt .. :: _,_,_,_,h,_ | .rp .. :: _,_,_,_,h,_ | .fn .. :: _,_,_,_,h,_ | .bx .. :: _,_,_,_,h,_ | .un :: _,_,_,_,h,_ | .nn :: _,_,_,_,h,_ | .mp .. :: _,_,_,_,h,_=>by simp [valL] at h
theorem yQ {x:AV}{u y:Value}(h:x.val? = some y)(hx:VR w St φ K x u):u=y:=by
 unfold AV.val? at h
 split at h
 ·simp only [VR,CR] at hx;injection h with h;rw [hx.1,h]
 ·simp only [VR] at hx
  obtain⟨us,rfl,hx⟩:=hx
  simp only [Option.map_eq_some_iff] at h
  obtain⟨vs,h1,rfl⟩:=h
  rw [ta h1 hx]
 ·cases h
theorem zK {c:AC}{u:Value}{f:List Nat}(h:CR w St φ K c u f):CR w St φ K (ld c) u []:=by
 unfold ld
 split
 ·simp [CR]
 ·simp [CR]
 ·rename_i hne hne2
  cases c<;>first|exact absurd rfl (hne _ _ _ _)|exact absurd rfl (hne2 _ _)|(simp only [CR] at h ⊢<;>first|exact⟨h.1,h.2.1,trivial⟩|exact⟨trivial,h.2⟩)
theorem qk:∀{l:List AC} {us:List Value} {fp:List Nat},CRL w St φ K l us fp→CRL w St φ K (l.map ld) us []
 | [],us,fp,h=>by simp only [CRL] at h;rw [h.1];exact CRL.nil
 | c :: r,us,fp,h=>by
  simp only [CRL] at h
  obtain⟨u,us',f1,f2,rfl,rfl,h1,h2⟩:=h
  exact CRL.cons (f:=[]) (zK h1) (qk h2)
theorem ic {x:AV}{u:Value}{cs:List AC}(h:x.cells=some cs)(hx:VR w St φ K x u):CRL w St φ K cs u.cells.toList []:=by
 unfold AV.cells at h
 split at h
 ·cases h
 ·rename_i c hne
  injection h with h
  subst h
  simp only [VR] at hx
  have h1:=CR.one (by intro e;exact hne e) hx
  have e:u.cells=#[u]:=by cases u<;>first|rfl|simp [Value.oneCell'] at h1
  rw [e]
  exact CRL.cons (f:=[]) (f':=[]) hx CRL.nil
 ·injection h with h
  subst h
  simp only [VR] at hx
  obtain⟨us,rfl,hx⟩:=hx
  simpa [Value.cells] using hx
 ·cases h
theorem ie {t:TypeId}{d:TypeDesc}(h:P.underlying t=some d)(w:World):(isAgg t).run P w=.ok (aggD d) w:=by
 unfold isAgg
 rw [Sem.run_bind,run_underlying h w]
 cases d<;>simp [aggD,Result.andThen]
theorem lF {t:TypeId}{i:TypeInfo}(h:P.info? t=some i)(w:World):(sizeOf t).run P w=.ok i.size w:=by
 simp [sizeOf,typeInfo,h]
theorem ql {t:TypeId}{cs:List AC}{us:List Value}{fp:List Nat}{x:AV}{b p:Nat}(hm:ww P t cs=some x)(hc:CRL w St φ K cs us fp)(hcell:∀j y,us[j]? = some y→w.cell? ⟨b,p+j,none⟩=some y) :
 ∃v,(loadVar t ⟨b,p,none⟩).run P w=.ok v w∧VR w St φ K x v:=by
 unfold ww at hm
 split at hm
 ·rename_i d i hd hi
  split at hm
  ·rename_i hl
   have hl':us.length=i.size:=by rw [hc.len,hl]
   split at hm
   ·rename_i ha
    injection hm with hm
    subst hm
    have h1:(loadCells ⟨b,p,none⟩ us.length).run P w=.ok us.toArray w:=run_loadCells_list (P:=P) w ⟨b,p,none⟩ us fun j y hy=>by rw [Addr.add_lit];exact hcell j y hy
    refine⟨.agg us.toArray,?_,by simp only [VR];exact⟨us,rfl,qk hc⟩⟩
    unfold loadVar
    rw [Sem.run_bind,ie hd,ha]
    simp only [Result.andThen_ok,if_true,Sem.run_bind,lF hi,←hl',h1,Sem.run_pure]
   ·rename_i ha
    split at hm
    ·rename_i c
     injection hm with hm
     subst hm
     simp only [CRL] at hc
     obtain⟨u,us',f1,f2,rfl,rfl,h1,rfl,rfl⟩:=hc
     have h2:=hcell 0 u rfl
     rw [Nat.add_zero] at h2
     refine⟨u,?_,by simp only [VR];exact zK h1⟩
     unfold loadVar
     rw [Sem.run_bind,ie hd]
     simp only [Bool.not_eq_true] at ha
     simp only [Result.andThen_ok,ha,Bool.false_eq_true,if_false,load,Sem.run,h2]
    ·cases hm
  ·cases hm
 ·cases hm
end
section
variable {P:Program}{C:Ctx}{φ:Nat→Lc}{F:Nat→List Nat}{St:Nat→Prop}{σ:AS}{a:Act}{w:World}
theorem SimF.ev (h:SimF C φ F St σ a w)(x:Operand):VR w St φ σ.Kn (σ.ev x) (a.eval x):=by
 cases x with
 | tmp t=>exact h.tms t
 | const v=>exact yP v
 | global g=>exact jI _
 | func f=>simp only [AS.ev,VR,CR,Act.eval];exact⟨trivial,[],rfl,CRL.nil⟩
theorem SimF.at_ (h:SimF C φ F St σ a w){i o:Nat}{r:Row}(hr:σ.hp i=some r){u:Value}(hu:CR w St φ σ.Kn (.pt i o) u []) :
 ∃b p us fs,u=.pointer (some ⟨b,p+o,none⟩)∧CRL w St φ σ.Kn r.cs us fs∧(∀j y,us[j]? = some y→w.cell? ⟨b,p+j,none⟩=some y):=by
 have h1:=(h.row i r hr).2
 simp only [CR] at hu
 obtain⟨_,_,⟨b,lo,e,rfl⟩|⟨b,n,c,e,rfl⟩⟩:=hu
 ·rw [e] at h1
  obtain⟨_,us,h2,h3⟩:=h1
  exact⟨b,lo,us,F i,rfl,h2,fun j y hy=>h3.cell hy⟩
 ·rw [e] at h1
  obtain⟨_,us,fs,h2,h3,_⟩:=h1
  refine⟨b,0,us,fs,by simp,h2,fun j y hy=>?_⟩
  have:=h3.cells (g:=b) rfl j y hy
  rwa [Addr.add_lit] at this
end
def gQ (l:List AC)(o n:Nat):List AC:=(l.drop o).take n
def fo (P:Program)(t:TypeId)(hp:Nat→Option Row):AV→Option AV
 | .c (.pt i o)=>(hp i).bind fun r=>ww P t (gQ r.cs o (P.cellsOf t))
 | .c (.rp l o)=>ww P t (gQ l o (P.cellsOf t))
 | _=>none
section
variable {P:Program}{C:Ctx}{φ:Nat→Lc}{F:Nat→List Nat}{St:Nat→Prop}{σ:AS}{a:Act}{w:World}
theorem CRL.drop {K:Nat→Prop}:∀{l:List AC} {us:List Value} {fp:List Nat} (o:Nat),CRL w St φ K l us fp→∃fs,CRL w St φ K (l.drop o) (us.drop o) fs
 | l,us,fp,0,h=>⟨fp,by simpa using h⟩
 | [],us,fp,o+1,h=>⟨[],by simp only [CRL] at h;rw [h.1];simpa using CRL.nil⟩
 | c :: r,us,fp,o+1,h=>by
  simp only [CRL] at h
  obtain⟨u,us',f1,f2,rfl,rfl,h1,h2⟩:=h
  simpa using h2.drop o
theorem CRL.take {K:Nat→Prop}:∀{l:List AC} {us:List Value} {fp:List Nat} (o:Nat),CRL w St φ K l us fp→∃fs,CRL w St φ K (l.take o) (us.take o) fs
 | l,us,fp,0,h=>⟨[],by simpa using CRL.nil⟩
 | [],us,fp,o+1,h=>⟨[],by simp only [CRL] at h;rw [h.1];simpa using CRL.nil⟩
 | c :: r,us,fp,o+1,h=>by
  simp only [CRL] at h
  obtain⟨u,us',f1,f2,rfl,rfl,h1,h2⟩:=h
  obtain⟨fs,h3⟩:=h2.take o
  exact⟨f1++fs,by simpa using CRL.cons h1 h3⟩
theorem CRL.sub {K:Nat→Prop}{l:List AC}{us:List Value}{fp:List Nat}(h:CRL w St φ K l us fp)(o n:Nat):∃fs,CRL w St φ K (gQ l o n) ((us.drop o).take n) fs:=by
 obtain⟨fs,h1⟩:=h.drop o
 exact h1.take n
theorem jJ {us:List Value}{b p o n:Nat}(h:∀j y,us[j]? = some y→w.cell? ⟨b,p+j,none⟩=some y):∀j y,((us.drop o).take n)[j]? = some y→w.cell? ⟨b,p+o+j,none⟩=some y:=by
 intro j y hy
 rw [List.getElem?_take] at hy
 split at hy
 ·rw [List.getElem?_drop] at hy
  have:=h (o+j) y hy
  rwa [←Nat.add_assoc] at this
 ·cases hy
theorem nq (h:SimF C φ F St σ a w){t:TypeId}{x y:AV}{u:Value}(hx:VR w St φ σ.Kn x u)(hl:fo P t σ.hp x=some y):∃v,(Instr.loadAt t u).run P w=.ok v w∧VR w St φ σ.Kn y v:=by
 unfold fo at hl
 split at hl
 ·rename_i i o
  simp only [VR] at hx
  simp only [Option.bind_eq_some_iff] at hl
  obtain⟨r,hr,hm⟩:=hl
  obtain⟨b,p,us,fs,rfl,h1,h2⟩:=h.at_ hr hx
  obtain⟨fs',h3⟩:=h1.sub o (P.cellsOf t)
  obtain⟨v,h4,h5⟩:=ql (P:=P) hm h3 (jJ h2)
  refine⟨v,?_,h5⟩
  simp only [Instr.loadAt,Instr.sureAddr,Sem.run_bind,Sem.run_pure,Result.andThen_ok,h4]
 ·rename_i l o
  simp only [VR,CR] at hx
  obtain⟨_,b,p,us,rfl,_,_,h2,h1⟩:=hx
  obtain⟨fs',h3⟩:=h1.sub o (P.cellsOf t)
  obtain⟨v,h4,h5⟩:=ql (P:=P) hl h3 (jJ h2)
  refine⟨v,?_,h5⟩
  simp only [Instr.loadAt,Instr.sureAddr,Sem.run_bind,Sem.run_pure,Result.andThen_ok,h4]
 ·cases hl
end
def spl {α:Type}(l:List α)(o:Nat)(m:List α):List α:=l.take o++m++l.drop (o+m.length)
theorem j4 {α:Type}{l m:List α}{o:Nat}(h:o+m.length≤l.length):(spl l o m).length=l.length:=by
 unfold spl;simp only [List.length_append,List.length_take,List.length_drop];omega
theorem iO {α:Type}{l m:List α}{o:Nat}(h:o+m.length≤l.length)(j:Nat):(spl l o m)[j]? = if j<o then l[j]? else if j<o+m.length then m[j-o]? else l[j]? := by
 unfold spl
 have h1:(l.take o).length=o:=by rw [List.length_take];omega
 by_cases hj:j<o
 ·rw [if_pos hj,List.append_assoc,List.getElem?_append_left omq,List.getElem?_take_of_lt hj]
 ·rw [if_neg hj,List.append_assoc,List.getElem?_append_right omq,h1]
  by_cases hj2:j<o+m.length
  ·rw [if_pos hj2,List.getElem?_append_left omq]
  ·rw [if_neg hj2,List.getElem?_append_right omq,List.getElem?_drop]
   congr 1;omega
section
variable {w w':World}{St:Nat→Prop}{φ:Nat→Lc}{K:Nat→Prop}
theorem CRL.spl {l m:List AC}{us vs:List Value}{fs:List Nat}(h:CRL w St φ K l us fs)(h':CRL w St φ K m vs []){o:Nat}(ho:o+m.length≤l.length):∃fs',CRL w St φ K (spl l o m) (spl us o vs) fs'∧fs'.Sublist fs:=by
 have e:l=l.take o++(gQ l o m.length++l.drop (o+m.length)):=by
  unfold gQ
  rw [←List.drop_drop,List.take_append_drop,List.take_append_drop]
 rw [e] at h
 obtain⟨us1,us2,f1,f2,rfl,rfl,h1,h2⟩:=h.split
 obtain⟨us3,us4,f3,f4,rfl,rfl,h3,h4⟩:=h2.split
 have l1:=h1.len
 have l3:=h3.len
 have lv:=h'.len
 have e1:us1.length=o:=by rw [l1,List.length_take];omega
 have e3:us3.length=vs.length:=by rw [l3,lv];unfold gQ;simp only [List.length_take,List.length_drop];omega
 refine⟨f1++f4,?_,?_⟩
 ·unfold Proofs.YtmnneflenebgmaaGreat.spl
  have g1:(us1++(us3++us4)).take o=us1:=by rw [←e1,List.take_left]
  have g2:(us1++(us3++us4)).drop (o+vs.length)=us4:=by rw [←List.append_assoc,←e1,←e3,←List.length_append,List.drop_left]
  rw [g1,g2]
  have:=(h1.app h').app h4
  rwa [List.append_nil] at this
 ·exact List.Sublist.append_left (List.sublist_append_right f3 f4) f1
theorem wJ {T:TypeId}{k n g cap:Nat}{us vs:List Value}{cur:Array Value}{o:Nat}(hh:w.heap[g]? = some (.cells cur T (0,0)))(hn:n≤cap)(hc:cap≤maxLen)(hs:cur.size=cap*k)(ht:cur.toList.take (n*k)=us)(hl:us.length=n*k)
 (ho:o+vs.length≤us.length):(w.setRow g (spl cur.toList o vs).toArray).ownsRow 0 T k (.slice (some ⟨g,0,none⟩) n cap) n (spl us o vs):=by
 have hle:n*k≤cap*k:=Nat.mul_le_mul_right k hn
 have hcl:cur.toList.length=cap*k:=by simpa using hs
 refine⟨by rw [j4 ho,hl],.inr ⟨g,cap,_,rfl,Nat.zero_le _,setRow_heap w g cur _ T _ hh,hn,hc,by simp [j4 (show o+vs.length≤cur.toList.length by omega),hs],?_⟩⟩
 apply List.ext_getElem?
 intro j
 rw [List.getElem?_take,List.toList_toArray,iO (show o+vs.length≤us.length from ho)]
 have h2:∀j,us[j]? = if j<n*k then cur.toList[j]? else none:=fun j=>by rw [←ht,List.getElem?_take]
 by_cases hj:j<n*k
 ·rw [if_pos hj,h2,if_pos hj,iO (show o+vs.length≤cur.toList.length by omega)]
 ·rw [if_neg hj,if_neg omq,if_neg omq,h2,if_neg hj]
end
section
variable {P:Program}{C:Ctx}{φ:Nat→Lc}{F:Nat→List Nat}{St:Nat→Prop}{σ:AS}{a:Act}{w:World}
theorem SimF.store (h:SimF C φ F St σ a w){i o:Nat}{r:Row}(hr:σ.hp i=some r){u:Value}(hu:CR w St φ σ.Kn (.pt i o) u []){xs:List AC}{vs:List Value}(hx:CRL w St φ σ.Kn xs vs [])(h1:∀v∈vs,v.oneCell'=true)
 (hlen:o+xs.length≤r.cs.length) :
 ∃b p w' F',u=.pointer (some ⟨b,p+o,none⟩)∧(storeCells ⟨b,p+o,none⟩ vs 0).run P w=.ok () w'∧SimF C φ F' St { σ with hp:=upd σ.hp i (some { r with cs:=spl r.cs o xs }) } a w':=by
 have hrow:=(h.row i r hr).2
 have hnd:=h.nod i r hr
 have lv:=hx.len
 simp only [CR] at hu
 obtain⟨_,_,⟨b,lo,e,rfl⟩|⟨b,n,c,e,rfl⟩⟩:=hu
 ·have hrow':=hrow
  rw [e] at hrow'
  obtain⟨hbx,us,h2,cs,T,hh,hc⟩:=hrow'
  have l2:=h2.len
  obtain⟨fs',h3,hsub⟩:=h2.spl hx hlen
  have hus:lo+us.length≤cs.size∨us.length=0:=by
   rcases Nat.eq_zero_or_pos us.length with h0|h0
   ·exact .inr h0
   ·left
    have:=hc (us.length-1) us[us.length-1] (by simp [List.getElem?_eq_getElem (show us.length-1<us.length by omega)])
    obtain⟨hlt,_⟩:=Array.getElem?_eq_some_iff.1 this
    omega
  have hrun:∃cs',(storeCells ⟨b,lo+o,none⟩ vs 0).run P w=.ok () (w.setRow b cs')∧cs'.size=cs.size∧∀j,cs'[j]? = if j<lo+o then cs[j]? else if j<lo+o+vs.length then vs[j-(lo+o)]? else cs[j]? := by
   rcases Nat.eq_zero_or_pos vs.length with h0|h0
   ·obtain rfl:=List.eq_nil_of_length_eq_zero h0
    refine⟨cs,?_,rfl,fun j=>?_⟩
    ·rw [setRow_self w b cs T (0,0) hh];rfl
    ·by_cases hj:j<lo+o
     ·rw [if_pos hj]
     ·rw [if_neg hj,if_neg (by simp;omega)]
   ·have hle:lo+o+vs.length≤cs.size:=by omega
    have hst:=run_storeCells_at P b (lo+o) T vs 0 cs w hh (by simpa using hle) h1
    refine⟨_,hst,?_,fun j=>?_⟩
    ·simp only [List.size_toArray,List.length_append,List.length_take,List.length_drop,Array.length_toList];omega
    ·have:=iO (l:=cs.toList) (m:=vs) (o:=lo+o) (by simpa using hle) j
     simp only [spl] at this
     simpa using this
  obtain⟨cs',hst,hsz,hget⟩:=hrun
  refine⟨b,lo,w.setRow b cs',upd F i fs',rfl,hst,?_⟩
  have hh':(w.setRow b cs').heap[b]? = some (.cells cs' T (0,0)):=setRow_heap w b cs _ T _ hh
  have hS:∀b',St b'→b'<w.heap.size→St b'∧(w.setRow b cs').heap[b']? = w.heap[b']? := fun b' hb _=>⟨hb,setRow_other w b b' cs' (by rintro rfl;exact h.stB i r b' lo hr e hb)⟩
  refine h.setRow hr (Stp.setRow w b cs') (.inl ⟨lo,e⟩) (j4 hlen) (F':=fs') ?_ (fun b' hb'=>.inl (hsub.subset hb')) (hnd.sublist hsub) ?_ ?_
  ·rw [e]
   refine⟨hbx,_,h3.mono hS (by simp) (fun j hj=>⟨hj,rfl⟩) (fun b' hb'=>setRow_other w b b' cs' (by rintro rfl;exact h.bxF i i r r b' lo hr hr e (hsub.subset hb'))),cs',T,hh',fun j x hjx=>?_⟩
   rw [iO omq] at hjx
   rw [hget]
   by_cases hj:j<o
   ·rw [if_pos hj] at hjx;rw [if_pos omq];exact hc j x hjx
   ·rw [if_neg hj] at hjx;rw [if_neg omq]
    by_cases hj2:j<o+vs.length
    ·rw [if_pos hj2] at hjx;rw [if_pos omq];rw [show lo+j-(lo+o)=j-o by omega];exact hjx
    ·rw [if_neg hj2] at hjx;rw [if_neg omq];exact hc j x hjx
  ·rintro j s lo' us' hj hji e' hl' ⟨cs2,T2,hh2,hc2⟩
   rw [hh] at hh2
   injection hh2 with hh2
   injection hh2 with hh2 hT2
   subst hh2 hT2
   refine⟨cs',T,hh',fun m x hm=>?_⟩
   have hml:m<us'.length:=(List.getElem?_eq_some_iff.1 hm).1
   have hd:=h.bxd i j r s b lo lo' hr hj (Ne.symm hji) e e'
   rw [hget]
   by_cases g1:lo'+m<lo+o
   ·rw [if_pos g1];exact hc2 m x hm
   ·rw [if_neg g1,if_neg omq];exact hc2 m x hm
  ·intro hlt hM
   refine .inr ⟨cs,cs',T,hh,hh',hsz,fun q hq=>?_⟩
   rw [hget]
   by_cases g1:q<lo+o
   ·rw [if_pos g1]
   ·rw [if_neg g1]
    by_cases g2:q<lo+o+vs.length
    ·exfalso
     rcases Nat.lt_or_ge i C.N with hi|hi
     ·obtain⟨p1,p2⟩:=h.par i hi
      rw [e] at p1
      injection p1 with p1 p1'
      have:=p2 r hr (q-lo) omq
      rw [←p1,←p1',show lo+(q-lo)=q by omega] at this
      exact hq this
     ·have:=h.new i r b lo hr e hi
      omega
    ·rw [if_neg g2]
 ·have hrow':=hrow
  rw [e] at hrow'
  obtain⟨hbx,us,fs,h2,hown,hF⟩:=hrow'
  have l2:=h2.len
  obtain⟨fs',h3,hsub⟩:=h2.spl hx hlen
  obtain⟨hl,⟨hv,_⟩|⟨g,cap,cur,hv,_,hh,hn,hc,hs,ht⟩⟩:=hown
  ·cases hv
  ·injection hv with hv1 hv2 hv3
   injection hv1 with hv1
   injection hv1 with hv1
   subst hv1 hv2 hv3
   have hle:r.n*r.k≤c*r.k:=Nat.mul_le_mul_right _ hn
   have hst:=run_storeCells_at P b o r.T vs 0 cur w hh omq h1
   have hbF:b∈F i:=by rw [hF];simp [obl,Value.ownBlock]
   have hbf:b∉fs:=by
    rw [hF] at hnd
    simp only [obl,Value.ownBlock,List.singleton_append,List.nodup_cons] at hnd
    exact hnd.1
   refine⟨b,0,_,upd F i (obl (.slice (some ⟨b,0,none⟩) r.n c)++fs'),by simp,by rw [Nat.zero_add];exact hst,?_⟩
   have hspl:(cur.toList.take (o+0)++vs++cur.toList.drop (o+0+vs.length)).toArray=(spl cur.toList o vs).toArray:=by simp [spl]
   rw [hspl]
   have hS:∀b',St b'→b'<w.heap.size→St b'∧(w.setRow b (spl cur.toList o vs).toArray).heap[b']? = w.heap[b']? := fun b' hb _=>⟨hb,setRow_other w b b' _ (by rintro rfl;exact h.stF i r b' hr hbF hb)⟩
   refine h.setRow hr (Stp.setRow w b _) (.inr hbF) (j4 hlen) ?_ (fun b' hb'=>.inl ?_) ?_ ?_ ?_
   ·rw [e]
    refine⟨hbx,_,fs',h3.mono hS (by simp) (fun j hj=>⟨hj,rfl⟩) (fun b' hb'=>setRow_other w b b' _ (by rintro rfl;exact hbf (hsub.subset hb'))),wJ hh hn hc hs ht hl omq,rfl⟩
   ·rw [hF]
    rcases List.mem_append.1 hb' with hb'|hb'
    ·exact List.mem_append_left _ hb'
    ·exact List.mem_append_right _ (hsub.subset hb')
   ·rw [hF] at hnd
    exact hnd.sublist (List.Sublist.append_left hsub _)
   ·intro j s lo us' hj hji e' _ _
    exact absurd hbF (h.bxF j i s r b lo hj hr e')
   ·intro hlt hM
    rcases h.own i r b hr hbF with h5|h5
    ·exact absurd h5 hM
    ·omega
end
section
variable {P:Program}{w:World}
theorem tc {t t2 ty e:TypeId}{i:TypeInfo}{z:Value}{d2:TypeDesc}(ht:P.underlying t=some (.slice e))(ht2:P.underlying t2=some d2)(hd2:(∃e',d2=.slice e')∨d2=.string)(hi:P.info? e=some i)(hz:i.zero=some z)(hzs:z.cells.size=i.size)(h0:0<i.size)
 {x:Value} {m:Nat} {news:List Value} (hlen:∀W:World,(Builtin.lenOf x).run P W=.ok m W) (hf:∀W:World,W.heap=w.heap→(Builtin.firstCells i.size m x).run P W=.ok news.toArray W) (hl:news.length=m*i.size) (h1:∀u∈news,u.oneCell'=true)
 {v:Value} {n:Nat} {us:List Value} (hown:w.ownsRow 0 e i.size v n us) (h63:n+m≤maxLen) (hb:(n+m)*i.bytes≤140737488355328) :
 ∃v' w',(Builtin.append_ #[t,t2] ty #[v,x]).run P w=.ok v' w'∧w'.ownsRow 0 e i.size v' (n+m) (us++news)∧Stp v.ownBlock w w'∧(∀b∈obl v',b∈obl v∨w.heap.size≤b):=by
 rcases hd2 with ⟨e',rfl⟩|rfl
 all_goals
  have hlen2:(us++news).length=(n+m)*i.size:=by rw [List.length_append,hown.1,hl,Nat.add_mul]
  have hsmall:n+m≤9223372036854775807:=by simp only [maxLen] at h63;omega
  have hfd:(Builtin.firstCells i.size m x).run P w.drew=.ok news.toArray w.drew:=hf _ rfl
  have hfw:=hf w rfl
  have h63':¬(9223372036854775807<((n:Int)+(m:Int))):=by omega
  have grown:∀(old:Nat),old<n+m →
   (w.drew.alloc (.cells (us.toArray++news.toArray++Builtin.zeroCells z.cells (grownCap w (n+m) old e-(n+m))) e)).ownsRow 0 e i.size
     (.slice (some ⟨w.heap.size,0,none⟩) (n+m) (grownCap w (n+m) old e)) (n+m) (us++news):=by
   intro old ho
   have hge:=grownCap_ge w (n+m) old e
   have hcm:grownCap w (n+m) old e≤maxLen:=grownCap_le_maxLen w (n+m) old e h63
   refine⟨hlen2,.inr ⟨w.heap.size,_,_,rfl,Nat.zero_le _,heap_alloc_new w.drew _,hge,hcm,?_,?_⟩⟩
   ·simp only [Array.size_append,List.size_toArray,size_zeroCells,hzs,hown.1,hl,←Nat.add_mul]
    congr 1
    omega
   ·simp only [Array.toList_append,List.append_assoc]
    rw [←List.append_assoc,←hlen2]
    exact List.take_left
  have hst:∀(o:Obj) (b:Option Nat),Stp b w (w.drew.alloc o):=fun o b=>⟨rfl,rfl,rfl,by simp,fun k hk _=>Below.heap_alloc w.drew o k (by simpa using hk)⟩
  rcases id hown.2 with ⟨rfl,rfl⟩|⟨g,cap,cur,rfl,_,hg,hnc,hcm,hcs,htake⟩
  ·have hx:us=[]:=List.eq_nil_of_length_eq_zero (by simpa using hown.1)
   subst hx
   by_cases hm:m=0
   ·subst hm
    have hn:news=[]:=List.eq_nil_of_length_eq_zero (by simpa using hl)
    subst hn
    refine⟨.slice none 0 0,w,?_,World.ownsRow_nil w 0 e i.size,Stp.refl _ _,by simp [obl,Value.ownBlock]⟩
    simp [Builtin.append_,run_underlying ht,run_underlying ht2,sizeOf,typeInfo,hi,hlen,hfw]
   ·have h48':¬(281474976710656<Builtin.nextslicecap m 0*i.bytes):=by
     rw [nextslicecap_zero omq];have hb':=hb;rw [Nat.zero_add] at hb';omega
    have h63'':¬(9223372036854775807<(m:Int)):=by omega
    have hgr:=grown 0 omq
    refine⟨.slice (some ⟨w.heap.size,0,none⟩) (0+m) (grownCap w (0+m) 0 e),_,?_,hgr,hst _ _,fun b hb=>.inr (by simp [obl,Value.ownBlock] at hb;omega)⟩
    simp [Builtin.append_,run_underlying ht,run_underlying ht2,sizeOf,typeInfo,zeroValue,hi,hz,hlen,hm,h63'',h48',Question.forced,run_firstCells_none,hfd,newRow,grownCap]
  ·by_cases hroom:n+m≤cap
   ·have hcell:∀j y,us[j]? = some y→w.cell? ((⟨g,0,none⟩:Addr).add j)=some y:=hown.cells (g:=g) rfl
    have hfit:n*i.size+0+news.length≤cur.size:=by rw [hl,hcs,Nat.add_zero,←Nat.add_mul];exact Nat.mul_le_mul_right _ hroom
    have hstc:=run_storeCells_at P g (n*i.size) e news 0 cur w hg hfit h1
    refine⟨.slice (some ⟨g,0,none⟩) (n+m) cap,w.setRow g (cur.toList.take (n*i.size+0)++news++cur.toList.drop (n*i.size+0+news.length)).toArray,?_,⟨hlen2,.inr ⟨g,cap,_,rfl,Nat.zero_le _,setRow_heap w g cur _ e _ hg,hroom,hcm,?_,?_⟩⟩,Stp.setRow w g _,fun b hb=>.inl hb⟩
    ·simp [Builtin.append_,run_underlying ht,run_underlying ht2,sizeOf,typeInfo,hi,hlen,hroom,hfw,Addr.add_lit]
     rw [hstc]
     simp
    ·simp only [List.size_toArray,List.length_append,List.length_take,List.length_drop,Array.length_toList]
     omega
    ·rw [Nat.add_zero,htake,←hlen2]
     exact List.take_left
   ·have hcell:∀j y,us[j]? = some y→w.drew.cell? ((⟨g,0,none⟩:Addr).add j)=some y:=hown.cells (g:=g) rfl
    have hfo:=run_firstCells_some (P:=P) w.drew i.size n ⟨g,0,none⟩ n cap us hown.1 hcell
    have h48':¬(281474976710656<Builtin.nextslicecap (n+m) cap*i.bytes):=by have:=growslice_fits (need:=n+m) (old:=cap) (bytes:=i.bytes) omq hb;omega
    refine⟨_,_,?_,grown cap omq,hst _ _,fun b hb=>.inr (by simp [obl,Value.ownBlock] at hb;omega)⟩
    simp [Builtin.append_,run_underlying ht,run_underlying ht2,sizeOf,typeInfo,zeroValue,hi,hz,hlen,hroom,h63',h48',Question.forced,hfd,hfo,newRow,grownCap]
    congr 2
    apply Array.ext'
    simp [List.append_assoc]
end
def PostS (C:Ctx)(σ:AS)(a:Act)(x:AV)(v:Value)(w:World):Prop:=∃φ F St,SimF C φ F St σ a w∧VR w St φ σ.Kn x v
section
variable {P:Program}{C:Ctx}{φ:Nat→Lc}{F:Nat→List Nat}{St:Nat→Prop}{σ:AS}{a:Act}{w:World}
theorem SimF.newBox (h:SimF C φ F St σ a w){id:Nat}(hg:σ.gn≤id)(hu:id∉σ.us){cs:List AC}{us:List Value}(hc:CRL w St φ σ.Kn cs us [])(T:TypeId) :
 PostS C { σ with hp:=upd σ.hp id (some ⟨T,0,0,true,cs⟩),us:=id :: σ.us } a (.c (.pt id 0)) (.pointer (some ⟨w.heap.size,0,none⟩)) (w.alloc (.cells us.toArray T)):=by
 have h':=h.newRow hg hu (b0:=none) (Stp.alloc w (.cells us.toArray T) none) (fun b hb=>by cases hb) (r:=⟨T,0,0,true,cs⟩) (L:=.box w.heap.size 0) (fp:=[]) (fun St' φ' hS hK=>⟨rfl,us,hc.mono hS (by simp) (fun j hj=>⟨hj.imp (fun q=>q) (List.mem_cons_of_mem _),hK j hj⟩) (fun b hb=>absurd hb List.not_mem_nil),us.toArray,T,heap_alloc_new w _,fun j x hx=>by simpa using hx⟩) (by simp) (fun b hb=>absurd hb List.not_mem_nil) (fun b lo e=>by injection e with e e2;subst e;exact⟨Nat.le_refl _,List.not_mem_nil⟩)
 exact⟨_,_,_,h',by simp only [VR,CR];exact⟨trivial,.inr List.mem_cons_self,.inl ⟨w.heap.size,0,by rw [aX],rfl⟩⟩⟩
theorem SimF.newSlice (h:SimF C φ F St σ a w){id:Nat}(hg:σ.gn≤id)(hu:id∉σ.us){w':World}{b0:Option Nat}(hs:Stp b0 w w')(hb0:∀b,b0=some b→Free C φ F St σ b){cs:List AC}{us:List Value}{fs:List Nat}(hc:CRL w St φ σ.Kn cs us fs)(hfs:∀b∈fs,some b≠b0)
 {T:TypeId} {k n:Nat} {u:Value} (hown:w'.ownsRow 0 T k u n us) (hnd:(obl u++fs).Nodup) (hfp:∀b∈obl u++fs,w.heap.size≤b∨Free C φ F St σ b) :
 PostS C { σ with hp:=upd σ.hp id (some ⟨T,k,n,false,cs⟩),us:=id :: σ.us } a (.c (.sl id n)) u w':=by
 have h':=h.newRow hg hu hs hb0 (r:=⟨T,k,n,false,cs⟩) (L:=.slc u) (fp:=obl u++fs) (fun St' φ' hS hK=>⟨rfl,us,fs,hc.mono hS hs.size (fun j hj=>⟨hj.imp (fun q=>q) (List.mem_cons_of_mem _),hK j hj⟩) (fun b hb=>hs.blk b (hc.lt b hb) (hfs b hb)),hown,rfl⟩) hnd hfp (fun b lo e=>by cases e)
 refine⟨_,_,_,h',?_⟩
 simp only [VR,CR]
 refine⟨trivial,.inr List.mem_cons_self,by rw [aX],?_⟩
 obtain⟨_,⟨rfl,rfl⟩|⟨g,cap,cur,rfl,_⟩⟩:=hown
 ·exact⟨none,0,rfl⟩
 ·exact⟨_,cap,rfl⟩
end
def ig (hp:Nat→Option Row)(k:Nat):AV→Option (Nat×List AC)
 | .c (.sl j m)=>(hp j).bind fun s=>if s.k=k∧s.n=m∧s.box=false then some (m,s.cs.map ld) else none
 | .c (.ro m k' l)=>if k'=k then some (m,l) else none
 | .c (.v (.slice none 0 0))=>some (0,[])
 | .c (.v (.string s))=>if k=1 then some (s.size,s.data.toList.map fun b=>.v (.int .u8 b.toNat)) else none
 | _=>none
def td:AC→Bool
 | .un=>false
 | _=>true
section
variable {P:Program}{C:Ctx}{φ:Nat→Lc}{F:Nat→List Nat}{St:Nat→Prop}{σ:AS}{a:Act}{w:World}
theorem CRL.one {K:Nat→Prop}:∀{l:List AC} {us:List Value} {fp:List Nat},CRL w St φ K l us fp→l.all td=true→∀u∈us,u.oneCell'=true
 | [],us,fp,h,_=>by simp only [CRL] at h;rw [h.1];simp
 | c :: r,us,fp,h,hn=>by
  simp only [CRL] at h
  obtain⟨u,us',f1,f2,rfl,rfl,h1,h2⟩:=h
  simp only [List.all_cons,Bool.and_eq_true] at hn
  intro v hv
  rcases List.mem_cons.1 hv with rfl|hv
  ·exact CR.one (by rintro rfl;simp [td] at hn) h1
  ·exact CRL.one h2 hn.2 v hv
theorem te (h:SimF C φ F St σ a w){k m:Nat}{x:AV}{u:Value}{cs:List AC}(hk:0<k)(hx:VR w St φ σ.Kn x u)(hs:ig σ.hp k x=some (m,cs)) :
 ∃us,CRL w St φ σ.Kn cs us []∧us.length=m*k∧(∀W:World,(Builtin.lenOf u).run P W=.ok m W)∧(∀W:World,W.heap=w.heap→(Builtin.firstCells k m u).run P W=.ok us.toArray W):=by
 unfold ig at hs
 split at hs
 ·rename_i j m'
  simp only [Option.bind_eq_some_iff] at hs
  obtain⟨s,hj,hs⟩:=hs
  split at hs
  ·rename_i hc
   obtain⟨rfl,rfl,hbx⟩:=hc
   injection hs with hs
   injection hs with e1 e2
   subst e1 e2
   simp only [VR,CR] at hx
   obtain⟨_,_,e,A,c,rfl⟩:=hx
   have h1:=(h.row j s hj).2
   rw [e] at h1
   obtain⟨_,us,fs,h2,h3,_⟩:=h1
   refine⟨us,qk h2,h3.1,fun W=>rfl,fun W hW=>?_⟩
   rcases A with _|ad
   ·have hn:s.n=0:=by
     rcases h3.2 with ⟨hv,hn⟩|⟨g,cap,cur,hv,_⟩
     ·exact hn
     ·cases hv
    have:us=[]:=List.eq_nil_of_length_eq_zero (by rw [h3.1,hn,Nat.zero_mul])
    subst this
    rfl
   ·refine run_firstCells_some (P:=P) W s.k s.n ad s.n c us h3.1 fun i y hy=>?_
    rcases h3.2 with ⟨hv,hn⟩|⟨g,cap,cur,hv,_⟩
    ·cases hv
    ·injection hv with hv
     injection hv with hv
     subst hv
     have:=h3.cells (g:=g) rfl i y hy
     simpa [World.cell?,hW] using this
  ·cases hs
 ·rename_i m' k' l
  split at hs
  ·rename_i hc
   subst hc
   injection hs with hs
   injection hs with e1 e2
   subst e1 e2
   simp only [VR,CR] at hx
   obtain⟨_,A,c,rfl,_,hl,hcell⟩:=hx
   rcases Nat.eq_zero_or_pos m' with h0|h0
   ·subst h0
    rw [Nat.zero_mul] at hl
    obtain rfl:=List.eq_nil_of_length_eq_zero hl
    refine⟨[],CRL.nil,by simp,fun W=>rfl,fun W _=>?_⟩
    rcases A with _|ad
    ·rfl
    ·exact run_firstCells_some (P:=P) W k' 0 ad 0 c [] (by simp) (by simp)
   ·obtain⟨b,o,us,rfl,_,_,h2,h3⟩:=hcell h0
    refine⟨us,h3,by rw [h3.len,hl],fun W=>rfl,fun W hW=>?_⟩
    refine run_firstCells_some (P:=P) W k' m' _ m' c us (by rw [h3.len,hl]) fun i y hy=>?_
    have:=h2 i y hy
    rw [Addr.add_lit]
    simpa [World.cell?,hW] using this
  ·cases hs
 ·injection hs with hs
  injection hs with e1 e2
  subst e1 e2
  simp only [VR,CR] at hx
  obtain⟨rfl,_⟩:=hx
  exact⟨[],CRL.nil,by simp,fun W=>rfl,fun W _=>rfl⟩
 ·rename_i s
  split at hs
  ·rename_i hc
   subst hc
   injection hs with hs
   injection hs with e1 e2
   subst e1 e2
   simp only [VR,CR] at hx
   obtain⟨rfl,_⟩:=hx
   have hlist:∀l:List UInt8,CRL w St φ σ.Kn (l.map fun b=>AC.v (.int .u8 b.toNat)) (l.map fun b=>Value.int .u8 b.toNat) []:=by
    intro l
    induction l with
    | nil=>exact CRL.nil
    | cons b r ih=>exact CRL.cons (f:=[]) (f':=[]) (by simp only [CR];exact⟨trivial,rfl,trivial⟩) ih
   refine⟨s.data.toList.map fun b=>.int .u8 b.toNat,hlist _,?_,fun W=>rfl,fun W _=>?_⟩
   ·simp only [List.length_map,Array.length_toList,Nat.mul_one];rfl
   ·have e:s.extract 0 s.size=s:=by
     apply ByteArray.ext
     simp [ByteArray.data_extract]
    simp only [Builtin.firstCells,e]
    show Result.ok _ _=_
    congr 1
    apply Array.ext'
    simp
  ·cases hs
 ·cases hs
end
def AS.grow (σ:AS)(id:Nat)(r:Row):AS:={ σ with hp:=upd σ.hp id (some r),us:=id :: σ.us }
def AS.set (σ:AS)(i:Nat)(r:Option Row):AS:={ σ with hp:=upd σ.hp i r }
def OpTo (P:Program)(C:Ctx)(o:Oper)(a:Act)(w:World)(x:AV)(σ':AS):Prop :=
 ∃n v w',(execOp a.eval o).run P w=.ok n w'∧(n=.value v∨n=.skip∧v=undef)∧PostS C σ' a x v w'
def nu (P:Program)(σ:AS)(id:Nat)(T:TypeId):Option (AV×AS) :=
 match (P.info? T).bind (·.zero) with
 | some z=>if σ.gn≤id∧id∉σ.us then some (.c (.pt id 0),σ.grow id ⟨T,0,0,true,z.cells.toList.map ofC⟩) else none
 | none=>none
def aBox (σ:AS)(id:Nat)(T:TypeId)(x:AV):Option (AV×AS) :=
 match x.cells with
 | some cs=>if σ.gn≤id∧id∉σ.us then some (.c (.pt id 0),σ.grow id ⟨T,0,0,true,cs⟩) else none
 | none=>none
def nx (P:Program)(σ:AS)(t:TypeId)(p x:AV):Option (AV×AS) :=
 match p,x.cells with
 | .c (.pt i o),some cs =>
  match σ.hp i with
  | some r=>if (P.info? t).map (·.size)=some cs.length∧cs.all td=true∧o+cs.length≤r.cs.length then some (.c .un,σ.set i (some { r with cs:=spl r.cs o cs })) else none
  | none=>none
 | _,_=>none
def aNil:AV→Option AV
 | .c (.pt i o)=>some (.c (.pt i o))
 | .c (.rp l o)=>some (.c (.rp l o))
 | .c (.fn f c)=>some (.c (.fn f c))
 | _=>none
def rz (P:Program)(S:TypeId)(f:Nat):Option Field :=
 match P.underlying S with
 | some (.struct fs)=>fs[f]?
 | _=>none
def di (P:Program)(S:TypeId)(f:Nat)(p:AV):Option AV :=
 match rz P S f with
 | some fl=>if (P.info? fl.type).isSome=true∧P.cellsOf fl.type≠0 then
  match p with
  | .c (.pt i o)=>some (.c (.pt i (o+fl.offset)))
  | .c (.rp l o)=>some (.c (.rp l (o+fl.offset)))
  | _=>none
  else none
 | none=>none
def dy (P:Program)(hp:Nat→Option Row)(T:TypeId)(x ix:AV):Option AV :=
 match P.underlying T,ix with
 | some (.slice e),.c (.v (.int _ n)) =>
  match (P.info? e).map (·.size) with
  | some k =>
   match x with
   | .c (.sl i m) =>
    match hp i with
    | some r=>if r.box=false∧r.n=m∧0≤n∧n<m then some (.c (.pt i (n.toNat*k))) else none
    | none=>none
   | .c (.ro m k' l)=>if k'=k∧0≤n∧n<m then some (.c (.rp l (n.toNat*k))) else none
   | _=>none
  | none=>none
 | _,_=>none
def qm (P:Program)(S:TypeId)(f:Nat):AV→Option AV
 | .ag l=>(rz P S f).bind fun fl=>ww P fl.type (gQ l fl.offset (P.cellsOf fl.type))
 | _=>none
def gE (j:Nat):AV→Option AV
 | .tu l=>l[j]?
 | _=>none
def tf:AV→AV→AV→Option AV
 | .c (.v (.bool t)),a,b=>some (if t then a else b)
 | _,_,_=>none
def yR:AV→Option AV
 | .c (.sl _ n)=>some (.c (.v (.int .i64 n)))
 | .c (.ro n _ _)=>some (.c (.v (.int .i64 n)))
 | .c (.v (.slice none 0 0))=>some (.c (.v (.int .i64 0)))
 | .c (.v (.string s))=>some (.c (.v (.int .i64 s.size)))
 | _=>none
section
variable {P:Program}{C:Ctx}{φ:Nat→Lc}{F:Nat→List Nat}{St:Nat→Prop}{σ:AS}{a:Act}{w:World}
theorem tg (h:SimF C φ F St σ a w){id:Nat}{T:TypeId}{x:AV}{σ':AS}(he:nu P σ id T=some (x,σ')):∃v w',(Instr.alloc T true (.tuple #[])).run P w=.ok v w'∧PostS C σ' a x v w':=by
 unfold nu at he
 split at he
 ·rename_i z hz
  split at he
  ·rename_i hc
   injection he with he
   injection he with e1 e2
   subst e1 e2
   simp only [Option.bind_eq_some_iff] at hz
   obtain⟨i,hi,hz⟩:=hz
   refine⟨_,_,?_,h.newBox hc.1 hc.2 (j3 z.cells.toList) T⟩
   simp [Instr.alloc,zeroValue,typeInfo,hi,hz,newVar,newRow]
  ·cases he
 ·cases he
theorem zL (h:SimF C φ F St σ a w){id:Nat}{T:TypeId}{y x:AV}{u:Value}(hy:VR w St φ σ.Kn y u){σ':AS}(he:aBox σ id T y=some (x,σ')):∃v w',(Instr.box T u).run P w=.ok v w'∧PostS C σ' a x v w':=by
 unfold aBox at he
 split at he
 ·rename_i cs hcs
  split at he
  ·rename_i hc
   injection he with he
   injection he with e1 e2
   subst e1 e2
   refine⟨_,_,?_,h.newBox hc.1 hc.2 (ic hcs hy) T⟩
   simp [Instr.box,newVar,newRow]
  ·cases he
 ·cases he
theorem th (h:SimF C φ F St σ a w){t:TypeId}{p y x:AV}{up u:Value}(hp:VR w St φ σ.Kn p up)(hy:VR w St φ σ.Kn y u){σ':AS}(he:nx P σ t p y=some (x,σ')):∃w',(Instr.storeAt t up u).run P w=.ok () w'∧PostS C σ' a x undef w':=by
 unfold nx at he
 split at he
 ·rename_i i o cs hcs
  split at he
  ·rename_i r hr
   split at he
   ·rename_i hc
    obtain⟨h1,h2,h3⟩:=hc
    injection he with he
    injection he with e1 e2
    subst e1 e2
    have hcr:=ic hcs hy
    simp only [VR] at hp
    obtain⟨b,p,w',F',rfl,hst,hsim⟩:=h.store (P:=P) hr hp hcr (hcr.one h2) h3
    refine⟨w',?_,φ,F',St,hsim,jI _⟩
    simp only [Option.map_eq_some_iff] at h1
    obtain⟨inf,hi,hs⟩:=h1
    have hl:=hcr.len
    simp only [Array.length_toList] at hl
    simp [Instr.storeAt,Instr.sureAddr,storeVar,sizeOf,typeInfo,hi,hs,hl,hst]
   ·cases he
  ·cases he
 ·cases he
theorem zM {K:Nat→Prop}{x y:AV}{u:Value}(hx:VR w St φ K x u)(he:aNil x=some y):y=x∧∀(o:Oper) (ρ:Operand→Value) (z:Operand),o.op=.nilCheck z→ρ z=u→(execOp ρ o).run P w=.ok (.value u) w:=by
 unfold aNil at he
 split at he
 ·injection he with he;subst he
  simp only [VR,CR] at hx
  obtain⟨_,_,⟨b,lo,_,rfl⟩|⟨b,n,c,_,rfl⟩⟩:=hx<;>exact⟨rfl,fun o ρ z ho hz=>by simp [execOp,ho,hz]⟩
 ·injection he with he;subst he
  simp only [VR,CR] at hx
  obtain⟨_,b,p,us,rfl,_⟩:=hx
  exact⟨rfl,fun o ρ z ho hz=>by simp [execOp,ho,hz]⟩
 ·injection he with he;subst he
  simp only [VR,CR] at hx
  obtain⟨_,us,rfl,_⟩:=hx
  exact⟨rfl,fun o ρ z ho hz=>by simp [execOp,ho,hz]⟩
 ·cases he
theorem ti {S:TypeId}{f:Nat}{fl:Field}(h:rz P S f=some fl):∃fs,P.underlying S=some (.struct fs)∧fs[f]? = some fl:=by
 unfold rz at h
 split at h
 ·rename_i fs hS;exact⟨fs,hS,h⟩
 ·cases h
theorem mc {K:Nat→Prop}{S:TypeId}{f:Nat}{x y:AV}{u:Value}(hx:VR w St φ K x u)(he:di P S f x=some y):∃v,(Instr.fieldAt S u f).run P w=.ok v w∧VR w St φ K y v:=by
 unfold di at he
 split at he
 ·rename_i fl hfl
  obtain⟨fs,hS,hf⟩:=ti hfl
  split at he
  ·rename_i hc
   obtain⟨hi,h0⟩:=hc
   obtain⟨inf,hi⟩:=Option.isSome_iff_exists.1 hi
   have h0':inf.size≠0:=by simpa [Program.cellsOf,hi] using h0
   have hplace:∀ad:Addr,(fieldPlace ad fl).run P w=.ok (ad.add fl.offset) w:=fun ad=>by simp [fieldPlace,sizeOf,typeInfo,hi,h0']
   have hrun:∀b q:Nat,(Instr.fieldAt S (.pointer (some ⟨b,q,none⟩)) f).run P w=.ok (.pointer (some ⟨b,q+fl.offset,none⟩)) w:=fun b q=>by
    simp [Instr.fieldAt,run_underlying hS,hf,Instr.sureAddr,hplace,Addr.add_lit]
   split at he
   ·rename_i i o
    injection he with he;subst he
    simp only [VR,CR] at hx ⊢
    obtain⟨_,hk,⟨b,lo,e,rfl⟩|⟨b,n,c,e,rfl⟩⟩:=hx
    ·exact⟨_,hrun b (lo+o),trivial,hk,.inl ⟨b,lo,e,by rw [Nat.add_assoc]⟩⟩
    ·exact⟨_,hrun b o,trivial,hk,.inr ⟨b,n,c,e,rfl⟩⟩
   ·rename_i l o
    injection he with he;subst he
    simp only [VR,CR] at hx ⊢
    obtain⟨_,b,p,us,rfl,h1⟩:=hx
    exact⟨_,hrun b (p+o),trivial,b,p,us,by rw [Nat.add_assoc],h1⟩
   ·cases he
  ·cases he
 ·cases he
theorem me (h:SimF C φ F St σ a w){T:TypeId}{x ix y:AV}{u ui:Value}(hx:VR w St φ σ.Kn x u)(hi:VR w St φ σ.Kn ix ui)(he:dy P σ.hp T x ix=some y):∃v,(Instr.indexAt T u ui).run P w=.ok v w∧VR w St φ σ.Kn y v:=by
 unfold dy at he
 split at he
 ·rename_i e kd n hT
  simp only [VR,CR] at hi
  obtain⟨rfl,_,_⟩:=hi
  split at he
  ·rename_i k hk
   simp only [Option.map_eq_some_iff] at hk
   obtain⟨inf,hinf,rfl⟩:=hk
   have hrun:∀(b q m c:Nat),0≤n→n<m→(Instr.indexAt T (.slice (some ⟨b,q,none⟩) m c) (.int kd n)).run P w=.ok (.pointer (some ⟨b,q+n.toNat*inf.size,none⟩)) w:=fun b q m c h0 h1=>by
    simp [Instr.indexAt,asIntOf,run_underlying hT,h0,h1,sizeOf,typeInfo,hinf,Addr.add_lit]
   split at he
   ·rename_i i m
    split at he
    ·rename_i r hr
     split at he
     ·rename_i hc
      obtain⟨hb,hm,h0,h1⟩:=hc
      injection he with he;subst he
      simp only [VR,CR] at hx
      obtain⟨_,hk,e,A,c,rfl⟩:=hx
      have hrow:=(h.row i r hr).2
      rw [e] at hrow
      obtain⟨_,us,fs,_,⟨_,hown⟩,_⟩:=hrow
      rcases hown with ⟨hv,hn⟩|⟨g,cap,cur,hv,_⟩
      ·omega
      ·injection hv with hv1 hv2 hv3
       subst hv1
       refine⟨_,hrun g 0 m c h0 h1,?_⟩
       simp only [VR,CR]
       exact⟨trivial,hk,.inr ⟨g,m,c,e,by rw [Nat.zero_add]⟩⟩
     ·cases he
    ·cases he
   ·rename_i m k' l
    split at he
    ·rename_i hc
     obtain⟨rfl,h0,h1⟩:=hc
     injection he with he;subst he
     simp only [VR,CR] at hx
     obtain⟨_,A,c,rfl,_,_,hcell⟩:=hx
     obtain⟨b,o,us,rfl,s1,s2,s3,s4⟩:=hcell omq
     refine⟨_,hrun b o m c h0 h1,?_⟩
     simp only [VR,CR]
     exact⟨trivial,b,o,us,rfl,s1,s2,s3,s4⟩
    ·cases he
   ·cases he
  ·cases he
 ·cases he
theorem tj {K:Nat→Prop}{S:TypeId}{f:Nat}{x y:AV}{u:Value}(hx:VR w St φ K x u)(he:qm P S f x=some y):∃v,(Instr.field S u f).run P w=.ok v w∧VR w St φ K y v:=by
 unfold qm at he
 split at he
 ·rename_i l
  simp only [Option.bind_eq_some_iff] at he
  obtain⟨fl,hfl,hm⟩:=he
  obtain⟨fs,hS,hf⟩:=ti hfl
  simp only [VR] at hx
  obtain⟨us,rfl,hc⟩:=hx
  obtain⟨fs',h3⟩:=hc.sub fl.offset (P.cellsOf fl.type)
  unfold ww at hm
  split at hm
  ·rename_i d i hd hi
   have hz:P.cellsOf fl.type=i.size:=by simp [Program.cellsOf,hi]
   split at hm
   ·rename_i hl
    have hl3:=h3.len
    rw [hl] at hl3
    split at hm
    ·rename_i hag
     injection hm with hm;subst hm
     refine⟨.agg ((us.drop fl.offset).take (P.cellsOf fl.type)).toArray,?_,by simp only [VR];exact⟨_,rfl,qk h3⟩⟩
     have e:us.toArray.extract fl.offset (fl.offset+i.size)=((us.drop fl.offset).take (P.cellsOf fl.type)).toArray:=by
      rw [hz]
      apply Array.ext'
      simp only [List.extract_toArray,List.extract_eq_take_drop,Nat.add_sub_cancel_left]
     simp [Instr.field,run_underlying hS,hf,part,ie hd,hag,asAgg,lF hi,e,hz]
    ·rename_i hag
     split at hm
     ·rename_i c hcs
      injection hm with hm;subst hm
      rw [hcs] at h3
      simp only [CRL] at h3
      obtain⟨v,us',f1,f2,e,_,h1,rfl,rfl⟩:=h3
      refine⟨v,?_,by simp only [VR];exact zK h1⟩
      have e2:us[fl.offset]? = some v:=by
       have:=congrArg (fun l:List Value=>l[0]?) e
       simp only [List.getElem?_cons_zero,List.getElem?_take,List.getElem?_drop,Nat.add_zero] at this
       split at this
       ·exact this
       ·cases this
      simp [Instr.field,run_underlying hS,hf,part,ie hd,hag,asAgg,e2]
     ·cases hm
   ·cases hm
  ·cases hm
 ·cases he
theorem VRL.at_ {K:Nat→Prop}:∀{l:List AV} {us:List Value} {j:Nat} {x:AV},VRL w St φ K l us→l[j]? = some x→∃u,us[j]? = some u∧VR w St φ K x u
 | [],_,_,_,_,h=>by simp at h
 | c :: r,us,0,x,h,hx=>by
  simp only [VRL] at h
  obtain⟨u,us',rfl,h1,_⟩:=h
  obtain rfl:c=x:=by simpa using hx
  exact⟨u,rfl,h1⟩
 | c :: r,us,j+1,x,h,hx=>by
  simp only [VRL] at h
  obtain⟨u,us',rfl,_,h2⟩:=h
  obtain⟨v,h3,h4⟩:=h2.at_ (j:=j) (by simpa using hx)
  exact⟨v,by simpa using h3,h4⟩
theorem oZ {K:Nat→Prop}{j:Nat}{x y:AV}{u:Value}(hx:VR w St φ K x u)(he:gE j x=some y):∃v,(Instr.extract u j).run P w=.ok v w∧VR w St φ K y v:=by
 unfold gE at he
 split at he
 ·rename_i l
  simp only [VR] at hx
  obtain⟨us,rfl,hl⟩:=hx
  obtain⟨v,h1,h2⟩:=hl.at_ he
  exact⟨v,by simp [Instr.extract,h1],h2⟩
 ·cases he
theorem zN {K:Nat→Prop}{x y:AV}{u:Value}(hx:VR w St φ K x u)(he:yR x=some y):∃n:Nat,y=.c (.v (.int .i64 n))∧((∃A c,u=.slice A n c)∨∃s:ByteArray,u=.string s∧s.size=n):=by
 unfold yR at he
 split at he<;>(try cases he)<;>simp only [VR,CR] at hx
 ·obtain⟨_,_,_,A,c,rfl⟩:=hx;exact⟨_,rfl,.inl ⟨A,c,rfl⟩⟩
 ·obtain⟨_,A,c,rfl,_⟩:=hx;exact⟨_,rfl,.inl ⟨A,c,rfl⟩⟩
 ·obtain⟨rfl,_⟩:=hx;exact⟨0,rfl,.inl ⟨none,0,rfl⟩⟩
 ·obtain⟨rfl,_⟩:=hx;exact⟨_,rfl,.inr ⟨_,rfl,rfl⟩⟩
end
def mf (place:Nat→Option (Nat×Nat))(cs:List AC):List (Nat×AV)→Option (List AC)
 | []=>some cs
 | (i,x) :: rest =>
  match place i,x.cells with
  | some (off,size),some xs=>if xs.length=size∧off+xs.length≤cs.length then mf place (spl cs off xs) rest else none
  | _,_=>none
theorem wK {α:Type}{l:List α}{o:Nat}{x:α}{m:List α}(h:o+(x :: m).length≤l.length):spl (l.set o x) (o+1) m=spl l o (x :: m):=by
 have hl:(x :: m).length=m.length+1:=rfl
 apply List.ext_getElem?
 intro j
 rw [iO (by rw [List.length_set];omega),iO h]
 by_cases h1:j<o
 ·rw [if_pos omq,if_pos h1,List.getElem?_set_ne omq]
 ·rw [if_neg h1]
  by_cases h2:j=o
  ·subst h2
   rw [if_pos omq,if_pos omq,Nat.sub_self,List.getElem?_set_self omq];rfl
  ·rw [if_neg omq]
   by_cases h3:j<o+1+m.length
   ·rw [if_pos h3,if_pos omq,show j-o=(j-(o+1))+1 by omega];rfl
   ·rw [if_neg h3,if_neg omq,List.getElem?_set_ne omq]
theorem ny (off:Nat):∀(vs:List Value) (k:Nat) (cs:Array Value),off+k+vs.length≤cs.size→((vs.zipIdx k).foldl (fun (cs:Array Value) (p:Value×Nat)=>cs.setIfInBounds (off+p.2) p.1) cs).toList=spl cs.toList (off+k) vs
 | [],k,cs,_=>by simp [spl]
 | v :: vs,k,cs,h=>by
  simp only [List.zipIdx_cons,List.foldl_cons]
  have hl:(v :: vs).length=vs.length+1:=rfl
  rw [ny off vs (k+1) _ (by rw [Array.size_setIfInBounds];omega),Array.toList_setIfInBounds]
  have:=wK (l:=cs.toList) (o:=off+k) (x:=v) (m:=vs) (by rw [Array.length_toList];omega)
  rw [←this];rfl
section
variable {w:World}{St:Nat→Prop}{φ:Nat→Lc}{K:Nat→Prop}
def PRL (w:World)(St:Nat→Prop)(φ:Nat→Lc)(K:Nat→Prop):List (Nat×AV)→List (Nat×Value)→Prop
 | [],vs=>vs=[]
 | (i,x) :: r,vs=>∃u vs',vs=(i,u) :: vs'∧VR w St φ K x u∧PRL w St φ K r vs'
theorem o3 (place:Nat→Option (Nat×Nat)):∀(parts:List (Nat×AV)) (vs:List (Nat×Value)) (cs cs':List AC) (us:Array Value),PRL w St φ K parts vs→CRL w St φ K cs us.toList []→mf place cs parts=some cs' →
 ∃us',Instr.fill place us vs=some us'∧CRL w St φ K cs' us'.toList []∧us'.size=us.size
 | [],vs,cs,cs',us,h,hc,hf=>by
  simp only [PRL] at h
  simp only [mf,Option.some.injEq] at hf
  subst h hf
  exact⟨us,rfl,hc,rfl⟩
 | (i,x) :: r,vs,cs,cs',us,h,hc,hf=>by
  simp only [PRL] at h
  obtain⟨u,vs',rfl,h1,h2⟩:=h
  simp only [mf] at hf
  split at hf
  ·rename_i off size xs hp hx
   split at hf
   ·rename_i hcond
    obtain⟨e1,e2⟩:=hcond
    have hxu:=ic hx h1
    have l1:=hxu.len
    have l2:=hc.len
    simp only [Array.length_toList] at l1 l2
    obtain⟨fs',g1,g2⟩:=hc.spl hxu (o:=off) e2
    obtain rfl:fs'=[]:=List.sublist_nil.1 g2
    have hfold:=ny off u.cells.toList 0 us (by rw [Array.length_toList];omega)
    rw [Nat.add_zero] at hfold
    have e3:(u.cells.zipIdx.foldl (fun (cs:Array Value) (p:Value×Nat)=>cs.setIfInBounds (off+p.2) p.1) us).toList=spl us.toList off u.cells.toList:=by
     rw [←hfold,←Array.foldl_toList,Array.toList_zipIdx]
    obtain⟨us',f1,f2,f3⟩:=o3 place r vs' _ cs' (u.cells.zipIdx.foldl (fun (cs:Array Value) (p:Value×Nat)=>cs.setIfInBounds (off+p.2) p.1) us) h2 (by rw [e3];exact g1) hf
    refine⟨us',?_,f2,?_⟩
    ·simp only [Instr.fill,hp]
     rw [if_neg]
     ·exact f1
     ·simp only [Bool.or_eq_true,decide_eq_true_eq,not_or,Nat.not_lt]
      exact⟨omq,omq⟩
    ·rw [f3,←Array.length_toList,e3,j4 (by simp only [Array.length_toList];omega),Array.length_toList]
   ·cases hf
  ·cases hf
end
def qn (P:Program)(T:TypeId)(parts:List (Nat×AV)):Option AV :=
 match P.info? T,P.underlying T with
 | some it,some (.struct fields) =>
  match it.zero,fields.toList.mapM (fun f=>(P.info? f.type).map fun i=>(f.offset,i.size)) with
  | some z,some places=>(mf (places.toArray[·]?) (z.cells.toList.map ofC) parts).map .ag
  | _,_=>none
 | _,_=>none
def eK (P:Program)(σ:AS)(id:Nat)(T:TypeId)(len:Nat)(parts:List (Nat×AV)):Option (AV×AS) :=
 match P.underlying T with
 | some (.slice e) =>
  match P.info? e with
  | some i =>
   match i.zero with
   | some z =>
    match mf (fun j=>some (j*i.size,i.size)) ((madeCells z.cells (len*i.size)).toList.map ofC) parts with
    | some cs=>if σ.gn≤id∧id∉σ.us∧len*i.size≤16777216∧len≤16777216 then some (.c (.sl id len),σ.grow id ⟨e,i.size,len,false,cs⟩) else none
    | none=>none
   | none=>none
  | none=>none
 | _=>none
def tk:TypeDesc→Bool
 | .slice _=>true
 | .string=>true
 | _=>false
def iP (P:Program)(σ:AS)(id:Nat)(T T2:TypeId)(x y:AV):Option (AV×AS) :=
 match P.underlying T,P.underlying T2 with
 | some (.slice e),some d2 =>
  match P.info? e with
  | some i =>
   match i.zero with
   | some z =>
    if tk d2=true∧z.cells.size=i.size∧0<i.size∧σ.gn≤id∧id∉σ.us then
    match ig σ.hp i.size y with
    | some (m,ys) =>
     if ys.all td=true then
     match x with
     | .c (.sl j n) =>
      match σ.hp j with
      | some r=>if r.T=e∧r.k=i.size∧r.n=n∧r.box=false∧(n+m)*i.bytes≤140737488355328∧n+m≤9223372036854775807 then some (.c (.sl id (n+m)),(σ.set j none).grow id ⟨e,i.size,n+m,false,r.cs++ys⟩) else none
      | none=>none
     | .c (.v (.slice none 0 0))=>if m*i.bytes≤140737488355328∧m≤9223372036854775807 then some (.c (.sl id m),σ.grow id ⟨e,i.size,m,false,ys⟩) else none
     | _=>none
     else none
    | none=>none
    else none
   | none=>none
  | none=>none
 | _,_=>none
section
variable {P:Program}{C:Ctx}{φ:Nat→Lc}{F:Nat→List Nat}{St:Nat→Prop}{σ:AS}{a:Act}{w:World}
theorem tl {K:Nat→Prop}{T:TypeId}{parts:List (Nat×AV)}{vs:Array (Nat×Value)}{y:AV}(hp:PRL w St φ K parts vs.toList)(he:qn P T parts=some y):∃v,(Instr.build T vs).run P w=.ok v w∧VR w St φ K y v:=by
 unfold qn at he
 split at he
 ·rename_i it fields hi hu
  split at he
  ·rename_i z places hz hpl
   simp only [Option.map_eq_some_iff] at he
   obtain⟨cs,hf,rfl⟩:=he
   obtain⟨us',f1,f2,_⟩:=o3 _ parts vs.toList _ cs z.cells hp (j3 _) hf
   refine⟨_,run_build w T vs us' ?_,by simp only [VR];exact⟨us'.toList,by simp,f2⟩⟩
   unfold Program.built
   simp only [hi,hu,hz,hpl]
   exact f1
  ·cases he
 ·cases he
theorem lf (h:SimF C φ F St σ a w){id:Nat}{T:TypeId}{len:Nat}{parts:List (Nat×AV)}{vs:Array (Nat×Value)}{y:AV}{σ':AS}(hp:PRL w St φ σ.Kn parts vs.toList)(he:eK P σ id T len parts=some (y,σ')) :
 ∃v w',(Instr.buildSlice T len vs).run P w=.ok v w'∧PostS C σ' a y v w':=by
 unfold eK at he
 split at he
 ·rename_i e hT
  split at he
  ·rename_i i hi
   split at he
   ·rename_i z hz
    split at he
    ·rename_i cs hf
     split at he
     ·rename_i hc
      obtain⟨h1,h2,h3,h4⟩:=hc
      injection he with he
      injection he with e1 e2
      subst e1 e2
      obtain⟨us',f1,f2,f3⟩:=o3 _ parts vs.toList _ cs (madeCells z.cells (len*i.size)) hp (j3 _) hf
      have hsz:us'.size=len*i.size:=by rw [f3,size_madeCells]
      have hown:=World.ownsRow_lit (base:=0) (e:=e) (size:=i.size) w us' len (Nat.zero_le _) (by unfold maxLen;omega) hsz
      refine⟨_,_,?_,h.newSlice h1 h2 (b0:=none) (Stp.alloc w (.cells us' e) none) (fun b hb=>by cases hb) f2 (fun b hb=>absurd hb List.not_mem_nil) hown (by simp [obl,Value.ownBlock]) (fun b hb=>.inl (by simp [obl,Value.ownBlock] at hb;omega))⟩
      have h3':¬(16777216<len*i.size):=by omega
      have f1':Instr.fill (fun j=>some (j*i.size,i.size)) (Array.map (fun x=>z.cells[x % z.cells.size]!) (Array.range (len*i.size))) vs.toList=some us':=f1
      by_cases hl0:len*i.size=0
      ·have r0:∀g:Nat→Value,Array.map g (Array.range 0)=#[]:=fun g=>Array.ext' (by simp)
       have f1'':Instr.fill (fun j=>some (j*i.size,i.size)) #[] vs.toList=some us':=by rw [hl0,r0] at f1';exact f1'
       simp [Instr.buildSlice,run_underlying hT,sizeOf,typeInfo,hi,hl0,r0,f1'',newRow]
      ·simp [Instr.buildSlice,run_underlying hT,sizeOf,typeInfo,zeroValue,hi,hz,h3',hl0,f1',newRow]
     ·cases he
    ·cases he
   ·cases he
  ·cases he
 ·cases he
theorem rB (h:SimF C φ F St σ a w){id:Nat}{T T2:TypeId}{x y z:AV}{u v:Value}{σ':AS}(hx:VR w St φ σ.Kn x u)(hy:VR w St φ σ.Kn y v)(he:iP P σ id T T2 x y=some (z,σ'))(ty:TypeId) :
 ∃v' w',(Builtin.append_ #[T,T2] ty #[u,v]).run P w=.ok v' w'∧PostS C σ' a z v' w':=by
 unfold iP at he
 split at he
 ·rename_i e d2 hT hT2
  split at he
  ·rename_i i hi
   split at he
   ·rename_i zz hz
    split at he
    ·rename_i hc
     obtain⟨c1,c2,c3,c4,c5⟩:=hc
     have hd2:(∃e',d2=.slice e')∨d2=.string:=by
      cases d2<;>first|exact .inl ⟨_,rfl⟩|exact .inr rfl|(simp [tk] at c1)
     split at he
     ·rename_i m ys hsrc
      obtain⟨vs,s1,s2,s3,s4⟩:=te (P:=P) h c3 hy hsrc
      split at he
      ·rename_i hnu
       split at he
       ·rename_i j n
        split at he
        ·rename_i r hr
         split at he
         ·rename_i hc
          obtain⟨rfl,k1,rfl,k3,k4,k5⟩:=hc
          injection he with he
          injection he with e1 e2
          subst e1 e2
          simp only [VR,CR] at hx
          obtain⟨_,_,eφ,A,c,hu⟩:=hx
          have hrow:=(h.row j r hr).2
          rw [eφ] at hrow
          obtain⟨_,us,fs,g1,g2,g3⟩:=hrow
          rw [k1] at g2
          obtain⟨v',w',r1,r2,r3,r4⟩:=tc (ty:=ty) hT hT2 hd2 hi hz c2 c3 s3 s4 s2 (s1.one hnu) g2 (by unfold maxLen;omega) k4
          refine⟨v',w',r1,?_⟩
          have hd:=h.drop j
          have hnd:=h.nod j r hr
          rw [g3] at hnd
          have hfree:∀b∈F j,Free C φ F St { σ with hp:=upd σ.hp j none } b:=fun b hb=>h.free hr hb
          have hlt:∀b∈fs,b<w.heap.size:=g1.lt
          have hnd':=List.nodup_append.1 hnd
          refine hd.newSlice (id:=id) c4 c5 r3 (fun b hb=>hfree b (by rw [g3];exact List.mem_append_left _ (by simp [obl,hb]))) (by have:=g1.app s1;rwa [List.append_nil] at this) (fun b hb e=>?_) r2 ?_ (fun b hb=>?_)
          ·exact hnd'.2.2 b (by simp [obl,←e]) b hb rfl
          ·rw [List.nodup_append]
           refine⟨?_,hnd'.2.1,fun p hp q hq hpq=>?_⟩
           ·unfold obl;cases v'.ownBlock<;>simp
           ·subst hpq
            rcases r4 p hp with h5|h5
            ·exact hnd'.2.2 p h5 p hq rfl
            ·have:=hlt p hq;omega
          ·rcases List.mem_append.1 hb with hb|hb
           ·rcases r4 b hb with h5|h5
            ·exact .inr (hfree b (by rw [g3];exact List.mem_append_left _ h5))
            ·exact .inl h5
           ·exact .inr (hfree b (by rw [g3];exact List.mem_append_right _ hb))
         ·cases he
        ·cases he
       ·split at he
        ·rename_i hc
         injection he with he
         injection he with e1 e2
         subst e1 e2
         simp only [VR,CR] at hx
         obtain⟨rfl,_,_⟩:=hx
         obtain⟨v',w',r1,r2,r3,r4⟩:=tc (ty:=ty) hT hT2 hd2 hi hz c2 c3 s3 s4 s2 (s1.one hnu) (World.ownsRow_nil w 0 e i.size) (by unfold maxLen;omega) (by rw [Nat.zero_add];exact hc.1)
         rw [Nat.zero_add,List.nil_append] at r2
         refine⟨v',w',r1,?_⟩
         refine h.newSlice (id:=id) c4 c5 r3 (fun b hb=>by cases hb) s1 (fun b hb=>absurd hb List.not_mem_nil) r2 ?_ (fun b hb=>?_)
         ·rw [List.append_nil];unfold obl;cases v'.ownBlock<;>simp
         ·rw [List.append_nil] at hb
          rcases r4 b hb with h5|h5
          ·simp [obl,Value.ownBlock] at h5
          ·exact .inl h5
        ·cases he
       ·cases he
      ·cases he
     ·cases he
    ·cases he
   ·cases he
  ·cases he
 ·cases he
end
def nz:Op→Bool
 | .select ..=>false
 | _=>true
def dz (P:Program)(ev:Operand→AV)(o:Oper):Option AV :=
 if nz o.op=true∧(∀x∈o.op.operands,(ev x).val?.isSome=true) then
  match Semval P (execOp (fun x=>((ev x).val?).getD undef) o) with
  | some (.value v)=>some (ofV v)
  | _=>none
 else none
def gF:List AV→Option (List AC)
 | []=>some []
 | .c x :: r=>(gF r).map (x :: ·)
 | _ :: _=>none
def zO (f:FuncId)(caps:List AV):Option AV:=(gF caps).map fun cs=>.c (.fn f cs)
def lG:List AC→Option (List UInt8)
 | []=>some []
 | .v (.int .u8 n) :: r=>(lG r).map (UInt8.ofNat n.toNat :: ·)
 | _ :: _=>none
def bnd (d:Nat):Option AV→Option Nat
 | none=>some d
 | some (.c (.v (.int _ n)))=>if 0≤n then some n.toNat else none
 | _=>none
def lH (P:Program)(σ:AS)(id:Nat)(T:TypeId)(x:AV)(lo hi:Option AV):Option (AV×AS) :=
 match P.underlying T with
 | some (.slice e) =>
  match (P.info? e).map (·.size) with
  | some k =>
   match x with
   | .c (.ro n k' l) =>
    match bnd 0 lo,bnd n hi with
    | some a,some b=>if k'=k∧a≤b∧b≤n then some (.c (.ro (b-a) k (gQ l (a*k) ((b-a)*k))),σ) else none
    | _,_=>none
   | .c (.sl i n) =>
    match bnd 0 lo,bnd n hi,σ.hp i with
    | some 0,some b,some r=>if r.k=k∧r.n=n∧r.box=false∧b≤n∧σ.gn≤id∧id∉σ.us then some (.c (.sl id b),(σ.set i none).grow id ⟨r.T,k,b,false,r.cs.take (b*k)⟩) else none
    | _,_,_=>none
   | _=>none
  | none=>none
 | _=>none
def wL (P:Program)(hp:Nat→Option Row)(s d:TypeId)(x:AV):Option AV :=
 match P.underlying s,P.underlying d with
 | some (.slice e),some .string =>
  match P.underlying e with
  | some (.int .u8) =>
   match ig hp 1 x with
   | some (_,cs)=>(lG cs).map fun bs=>.c (.v (.string ⟨bs.toArray⟩))
   | none=>none
  | _=>none
 | _,_=>none
def ii:AV→Bool
 | .c (.v (.string _))=>true
 | _=>false
section
variable {P:Program}{C:Ctx}{φ:Nat→Lc}{F:Nat→List Nat}{St:Nat→Prop}{σ:AS}{a:Act}{w:World}
theorem wM (h:SimF C φ F St σ a w){o:Oper}{x:AV}(he:dz P σ.ev o=some x):∃v,(execOp a.eval o).run P w=.ok (.value v) w∧VR w St φ σ.Kn x v:=by
 unfold dz at he
 split at he
 ·rename_i hc
  split at he
  ·rename_i v hv
   injection he with he;subst he
   refine⟨v,?_,yP v⟩
   have:execOp a.eval o=execOp (fun x=>((σ.ev x).val?).getD undef) o:=by
    refine execOp_congr o (fun cs b e=>by have:=hc.1;rw [e] at this;cases this) fun x hx=>?_
    obtain⟨y,hy⟩:=Option.isSome_iff_exists.1 (hc.2 x hx)
    rw [hy]
    exact yQ hy (h.ev x)
   rw [this]
   exact ry w hv
  ·cases he
 ·cases he
theorem j5 {K:Nat→Prop}:∀{l:List AV} {us:List Value} {cs:List AC},VRL w St φ K l us→gF l=some cs→CRL w St φ K cs us []
 | [],us,cs,h,he=>by simp only [gF,Option.some.injEq] at he;simp only [VRL] at h;subst he h;exact CRL.nil
 | .c x :: r,us,cs,h,he=>by
  simp only [gF,Option.map_eq_some_iff] at he
  obtain⟨cs',h1,rfl⟩:=he
  simp only [VRL] at h
  obtain⟨u,us',rfl,h2,h3⟩:=h
  simp only [VR] at h2
  exact CRL.cons (f:=[]) (f':=[]) h2 (j5 h3 h1)
 | .ag _ :: _,_,_,_,he | .tu _ :: _,_,_,_,he=>by simp [gF] at he
theorem evs (h:SimF C φ F St σ a w):∀l:List Operand,VRL w St φ σ.Kn (l.map σ.ev) (l.map a.eval)
 | []=>by simp [VRL]
 | x :: r=>by simp only [List.map_cons,VRL];exact⟨_,_,rfl,h.ev x,evs h r⟩
theorem prl (h:SimF C φ F St σ a w):∀l:List (Nat×Operand),PRL w St φ σ.Kn (l.map fun p=>(p.1,σ.ev p.2)) (l.map fun p=>(p.1,a.eval p.2))
 | []=>by simp [PRL]
 | x :: r=>by simp only [List.map_cons,PRL];exact⟨_,_,rfl,h.ev x.2,prl h r⟩
theorem nA {K:Nat→Prop}:∀{cs:List AC} {us:List Value} {fp:List Nat} {bs:List UInt8},CRL w St φ K cs us fp→lG cs=some bs→∃ns:List Int,us=ns.map (Value.int .u8)∧bs=ns.map fun n=>UInt8.ofNat n.toNat
 | [],us,fp,bs,h,he=>by simp only [lG,Option.some.injEq] at he;simp only [CRL] at h;exact⟨[],h.1,by rw [←he];rfl⟩
 | .v (.int .u8 n) :: r,us,fp,bs,h,he=>by
  simp only [lG,Option.map_eq_some_iff] at he
  obtain⟨bs',h1,rfl⟩:=he
  simp only [CRL,CR] at h
  obtain⟨u,us',f1,f2,rfl,_,⟨rfl,_⟩,h4⟩:=h
  obtain⟨ns,rfl,rfl⟩:=nA h4 h1
  exact⟨n :: ns,rfl,rfl⟩
 | .v (.int .i8 _) :: _,_,_,_,_,he | .v (.int .i16 _) :: _,_,_,_,_,he | .v (.int .i32 _) :: _,_,_,_,_,he | .v (.int .i64 _) :: _,_,_,_,_,he | .v (.int .u16 _) :: _,_,_,_,_,he | .v (.int .u32 _) :: _,_,_,_,_,he | .v (.int .u64 _) :: _,_,_,_,_,he
 | .v (.bool _) :: _,_,_,_,_,he | .v (.float ..) :: _,_,_,_,_,he | .v (.complex ..) :: _,_,_,_,_,he | .v (.string _) :: _,_,_,_,_,he | .v (.pointer _) :: _,_,_,_,_,he | .v (.slice ..) :: _,_,_,_,_,he | .v (.map _) :: _,_,_,_,_,he | .v (.chan _) :: _,_,_,_,_,he | .v (.func ..) :: _,_,_,_,_,he | .v .nilFunc :: _,_,_,_,_,he | .v (.iface ..) :: _,_,_,_,_,he | .v .nilIface :: _,_,_,_,_,he | .v (.agg _) :: _,_,_,_,_,he | .v (.tuple _) :: _,_,_,_,_,he
 | .ro .. :: _,_,_,_,_,he | .ow .. :: _,_,_,_,_,he | .sl .. :: _,_,_,_,_,he | .pt .. :: _,_,_,_,_,he | .rp .. :: _,_,_,_,_,he | .fn .. :: _,_,_,_,_,he | .bx .. :: _,_,_,_,_,he | .un :: _,_,_,_,_,he | .nn :: _,_,_,_,_,he | .mp .. :: _,_,_,_,_,he=>by simp [lG] at he
theorem zP (h:SimF C φ F St σ a w){s d:TypeId}{x y:AV}{u:Value}(hx:VR w St φ σ.Kn x u)(hns:ii x=false)(he:wL P σ.hp s d x=some y):∃v,(convert s d u).run P w=.ok v w∧VR w St φ σ.Kn y v:=by
 unfold wL at he
 split at he
 ·rename_i e hs hd
  split at he
  ·rename_i hu
   split at he
   ·rename_i m cs hsrc
    simp only [Option.map_eq_some_iff] at he
    obtain⟨bs,hb,rfl⟩:=he
    have hsl:∃A c,u=.slice A m c:=by
     unfold ig at hsrc
     split at hsrc
     ·simp only [Option.bind_eq_some_iff] at hsrc
      obtain⟨r,_,hsrc⟩:=hsrc
      split at hsrc
      ·injection hsrc with hsrc;injection hsrc with e1 _;subst e1
       simp only [VR,CR] at hx;obtain⟨_,_,_,A,c,rfl⟩:=hx;exact⟨A,c,rfl⟩
      ·cases hsrc
     ·split at hsrc
      ·injection hsrc with hsrc;injection hsrc with e1 _;subst e1
       simp only [VR,CR] at hx;obtain⟨_,A,c,rfl,_⟩:=hx;exact⟨A,c,rfl⟩
      ·cases hsrc
     ·injection hsrc with hsrc;injection hsrc with e1 _;subst e1
      simp only [VR,CR] at hx;obtain⟨rfl,_⟩:=hx;exact⟨none,0,rfl⟩
     ·simp [ii] at hns
     ·cases hsrc
    obtain⟨us,s1,s2,s3,s4⟩:=te (P:=P) h omq hx hsrc
    obtain⟨ns,rfl,rfl⟩:=nA s1 hb
    obtain⟨A,c,rfl⟩:=hsl
    refine⟨.string ⟨(ns.map fun n=>UInt8.ofNat n.toNat).toArray⟩,?_,by simp only [VR,CR];exact⟨trivial,rfl,trivial⟩⟩
    rw [run_convert_bytes_string w s d e A m c hs hu hd]
    have hf:=s4 w rfl
    rcases A with _|ad
    ·have:ns=[]:=by
      have h2:(Builtin.firstCells 1 m (.slice none m c)).run P w=.ok #[] w:=rfl
      rw [h2] at hf
      injection hf with hf
      have:=congrArg Array.size hf
      simp at this
      exact List.eq_nil_of_length_eq_zero this.symm
     subst this
     rfl
    ·have h2:(loadCells ad m).run P w=.ok (ns.map (Value.int .u8)).toArray w:=by
      have:=hf
      simp only [Builtin.firstCells,Nat.mul_one] at this
      exact this
     rw [run_bytesToString w ad m c ns h2,foldl_push_bytes]
     simp [ByteArray.empty,ByteArray.emptyWithCapacity]
     rfl
   ·cases he
  ·cases he
 ·cases he
theorem qo {K:Nat→Prop}{d n:Nat}{x:Option AV}{u:Option Value}(hx:match x,u with|none,none=>True|some y,some v=>VR w St φ K y v|_,_=>False)(he:bnd d x=some n) :
 (x=none∧u=none∧n=d)∨∃k,u=some (.int k n):=by
 unfold bnd at he
 split at he
 ·cases u with
  | none=>injection he with he;exact .inl ⟨rfl,rfl,he.symm⟩
  | some v=>exact hx.elim
 ·rename_i kd m
  cases u with
  | none=>exact hx.elim
  | some v =>
   simp only [VR,CR] at hx
   obtain⟨rfl,_⟩:=hx
   split at he
   ·rename_i h0
    injection he with he
    exact .inr ⟨kd,by rw [←he,Int.toNat_of_nonneg h0]⟩
   ·cases he
 ·cases he
theorem nB {T e:TypeId}{i:TypeInfo}(hT:P.underlying T=some (.slice e))(hi:P.info? e=some i){A:Option Addr}{n c a b:Nat}{lo hi':Option Value}(hlo:(lo=none∧a=0)∨∃k,lo=some (.int k a))(hhi:(hi'=none∧b=n)∨∃k,hi'=some (.int k b))(h1:a≤b)(h2:b≤n)(h3:n≤c) :
 (Instr.sliceAt T (.slice A n c) lo hi' none).run P w=.ok (.slice (if c=a then A else A.map (·.add (a*i.size))) (b-a) (c-a)) w:=by
 have g1:∀(k:IntKind) (y m:Nat) (code:BoundsCode),y≤m→(Instr.sliceBound (.int k (y:Int)) m code).run P w=.ok y w:=fun k y m code hy=>by
  simp [Instr.sliceBound,asIntOf,show (0:Int)≤(y:Int) by omega,hy]
 rcases hlo with ⟨rfl,rfl⟩|⟨k1,rfl⟩<;>rcases hhi with ⟨rfl,rfl⟩|⟨k2,rfl⟩
 ·simp [Instr.sliceAt,Instr.slice,Instr.sliceBounds,run_underlying hT,sizeOf,typeInfo,hi]
 ·simp [Instr.sliceAt,Instr.slice,Instr.sliceBounds,run_underlying hT,sizeOf,typeInfo,hi,g1 k2 b c _ omq]
 ·simp [Instr.sliceAt,Instr.slice,Instr.sliceBounds,run_underlying hT,sizeOf,typeInfo,hi,g1 k1 a b _ omq]
 ·simp [Instr.sliceAt,Instr.slice,Instr.sliceBounds,run_underlying hT,sizeOf,typeInfo,hi,g1 k2 b c _ omq,g1 k1 a b _ omq]
theorem tn (h:SimF C φ F St σ a w){id:Nat}{T:TypeId}{x y:AV}{u:Value}{lo hi:Option AV}{ulo uhi:Option Value}{σ':AS}(hx:VR w St φ σ.Kn x u)
 (hlo:match lo,ulo with|none,none=>True|some y,some v=>VR w St φ σ.Kn y v|_,_=>False) (hhi:match hi,uhi with|none,none=>True|some y,some v=>VR w St φ σ.Kn y v|_,_=>False)
 (he:lH P σ id T x lo hi=some (y,σ')):∃v w',(Instr.sliceAt T u ulo uhi none).run P w=.ok v w'∧PostS C σ' a y v w':=by
 unfold lH at he
 split at he
 ·rename_i e hT
  split at he
  ·rename_i k hk
   simp only [Option.map_eq_some_iff] at hk
   obtain⟨inf,hinf,rfl⟩:=hk
   split at he
   ·rename_i n k' l
    split at he
    ·rename_i p q hp hq
     split at he
     ·rename_i hc
      obtain⟨rfl,h1,h2⟩:=hc
      injection he with he;injection he with e1 e2;subst e1 e2
      simp only [VR,CR] at hx
      obtain⟨_,A,c,rfl,hcap,hl,hcell⟩:=hx
      have b1:=qo hlo hp
      have b2:=qo hhi hq
      refine⟨_,_,nB hT hinf (a:=p) (b:=q) (b1.elim (fun g=>.inl ⟨g.2.1,g.2.2⟩) .inr) (b2.elim (fun g=>.inl ⟨g.2.1,g.2.2⟩) .inr) h1 h2 hcap.1,φ,F,St,h,?_⟩
      simp only [VR,CR]
      refine⟨trivial,_,_,rfl,⟨omq,omq,fun hA=>?_⟩,?_,fun hpos=>?_⟩
      ·have hA':A=none:=by
        split at hA
        ·exact hA
        ·cases A with
         | none=>rfl
         | some _=>simp at hA
       have:=hcap.2.2 hA';omega
      ·unfold gQ
       rw [List.length_take,List.length_drop,hl,←Nat.sub_mul,Nat.min_eq_left (Nat.mul_le_mul_right _ omq)]
      ·obtain⟨b,o,us,rfl,s1,s2,s3,s4⟩:=hcell omq
       obtain⟨fs',g3⟩:=s4.sub (p*inf.size) ((q-p)*inf.size)
       have hne:c≠p:=by omega
       have g4:CRL w St φ σ.Kn (gQ l (p*inf.size) ((q-p)*inf.size)) ((us.drop (p*inf.size)).take ((q-p)*inf.size)) []:=by
        have e:l=l.take (p*inf.size)++(gQ l (p*inf.size) ((q-p)*inf.size)++(l.drop (p*inf.size)).drop ((q-p)*inf.size)):=by
         unfold gQ;rw [List.take_append_drop,List.take_append_drop]
        rw [e] at s4
        obtain⟨u1,u2,f1,f2,e1,e2,g1,g2⟩:=s4.split
        obtain⟨u3,u4,f3,f4,e3,e4,g5,g6⟩:=g2.split
        subst e1 e3
        have l1:=g1.len
        have l3:=g5.len
        have lp:p*inf.size≤l.length:=by rw [hl];exact Nat.mul_le_mul_right _ omq
        have lq:(q-p)*inf.size≤(l.drop (p*inf.size)).length:=by rw [List.length_drop,hl,←Nat.sub_mul];exact Nat.mul_le_mul_right _ omq
        rw [List.length_take,Nat.min_eq_left lp] at l1
        unfold gQ at l3
        rw [List.length_take,Nat.min_eq_left lq] at l3
        have d1:(u1++(u3++u4)).drop (p*inf.size)=u3++u4:=by rw [←l1,List.drop_left]
        have d2:(u3++u4).take ((q-p)*inf.size)=u3:=by rw [←l3,List.take_left]
        rw [d1,d2]
        have:f3=[]:=by
         have h5:=List.append_eq_nil_iff.1 e2.symm
         have h6:=List.append_eq_nil_iff.1 (e4▸h5.2)
         exact h6.1
        rw [this] at g5
        exact g5
       refine⟨b,o+p*inf.size,_,?_,s1,s2,jJ s3,g4⟩
       rw [if_neg hne];simp [Addr.add_lit]
     ·cases he
    ·cases he
   ·rename_i i n
    split at he
    ·rename_i b r hp hq hr
     split at he
     ·rename_i hc
      obtain⟨hk,rfl,hbx,h2,h3,h4⟩:=hc
      injection he with he;injection he with e1 e2;subst e1 e2
      simp only [VR,CR] at hx
      obtain⟨_,_,eφ,A,c,rfl⟩:=hx
      have hrow:=(h.row i r hr).2
      rw [eφ] at hrow
      obtain⟨_,us,fs,g1,g2,g3⟩:=hrow
      have b1:=qo hlo hp
      have b2:=qo hhi hq
      have hcap:r.n≤c∧(A=none→c=0):=by
       rcases g2.2 with ⟨hv,hn⟩|⟨g,cap,cur,hv,_,_,hn,_⟩
       ·injection hv with _ _ hv3;exact⟨omq,fun _=>hv3⟩
       ·injection hv with hv1 _ hv3;exact⟨omq,fun e=>by rw [hv1] at e;cases e⟩
      refine⟨_,_,nB hT hinf (a:=0) (b:=b) (b1.elim (fun g=>.inl ⟨g.2.1,rfl⟩) .inr) (b2.elim (fun g=>.inl ⟨g.2.1,g.2.2⟩) .inr) (Nat.zero_le _) h2 hcap.1,?_⟩
      have hd:=h.drop i
      have hnd:=h.nod i r hr
      rw [g3] at hnd
      have hfree:∀b∈F i,Free C φ F St { σ with hp:=upd σ.hp i none } b:=fun b hb=>h.free hr hb
      have e:r.cs=r.cs.take (b*r.k)++r.cs.drop (b*r.k):=(List.take_append_drop _ _).symm
      have hlr:=g1.len
      rw [e] at g1
      obtain⟨u1,u2,f1,f2,e1,e2,g5,g6⟩:=g1.split
      subst e1 e2
      have hval:(Value.slice (if c=0 then A else A.map (·.add (0*inf.size))) (b-0) (c-0))=.slice A b c:=by
       have:A.map (·.add (0*inf.size))=A:=by cases A<;>simp [Addr.add]
       rw [this];simp
      rw [hval]
      have l5:=g5.len
      have ho:obl (.slice A b c)=obl (.slice A r.n c):=by cases A<;>rfl
      have hown:w.ownsRow 0 r.T r.k (.slice A b c) b u1:=by
       obtain⟨q1,q2⟩:=g2
       have hlu:u1.length=b*r.k:=by
        rw [l5,List.length_take,←hlr,q1,Nat.min_eq_left (Nat.mul_le_mul_right _ h2)]
       refine⟨hlu,?_⟩
       rcases q2 with ⟨hv,hn⟩|⟨g,cap,cur,hv,hz,hh,hn,hc,hs,ht⟩
       ·injection hv with hv1 hv2 hv3
        have:b=0:=by omega
        exact .inl ⟨by rw [hv1,hv3,this],this⟩
       ·injection hv with hv1 hv2 hv3
        refine .inr ⟨g,cap,cur,by rw [hv1,hv3],hz,hh,omq,hc,hs,?_⟩
        have:=congrArg (List.take (b*r.k)) ht
        rw [List.take_take,Nat.min_eq_left (Nat.mul_le_mul_right _ h2),←hlu,List.take_left] at this
        rw [←hlu];exact this
      refine hd.newSlice (id:=id) h3 h4 (b0:=none) (Stp.refl _ _) (fun b hb=>by cases hb) (by rw [←hk];exact g5) (fun b hb=>by simp) (by rw [←hk];exact hown) ?_ (fun q hq=>.inr (hfree q ?_))
      ·exact hnd.sublist (by rw [ho];exact List.Sublist.append_left (List.sublist_append_left f1 f2) _)
      ·rw [g3]
       rw [ho] at hq
       rcases List.mem_append.1 hq with hq|hq
       ·exact List.mem_append_left _ hq
       ·exact List.mem_append_right _ (List.mem_append_left _ hq)
     ·cases he
    ·cases he
   ·cases he
  ·cases he
 ·cases he
end
def mg (P:Program)(t:TypeId)(x:AV):Bool :=
 match P.underlying t with
 | some (.slice _)=>!ii x
 | some .string=>ii x
 | _=>false
def eL (σ:AS)(x:Option AV):Option (AV×AS):=x.map fun y=>(y,σ)
def EffCall (P:Program)(o:Oper)(σ:AS)(id:Nat)(c:Call):Option (AV×AS) :=
 match c.callee,c.args.toList,c.argTypes.toList with
 | .builtin .len,[x],[t]=>if mg P t (σ.ev x)=true then eL σ (yR (σ.ev x)) else none
 | .builtin .append,[x,y],[T,T2]=>iP P σ id T T2 (σ.ev x) (σ.ev y)
 | .builtin .min,_,_=>eL σ (dz P σ.ev o)
 | .builtin .max,_,_=>eL σ (dz P σ.ev o)
 | _,_,_=>none
def Eff (P:Program)(o:Oper)(σ:AS)(id:Nat):Option (AV×AS) :=
 match o.op with
 | .move x=>some (σ.ev x,σ)
 | .assign x=>some (σ.ev x,σ)
 | .pick c a b=>eL σ (tf (σ.ev c) (σ.ev a) (σ.ev b))
 | .alloc T=>nu P σ id T
 | .box T x=>aBox σ id T (σ.ev x)
 | .load t p=>eL σ (fo P t σ.hp (σ.ev p))
 | .store t p x=>nx P σ t (σ.ev p) (σ.ev x)
 | .nilCheck x=>eL σ (aNil (σ.ev x))
 | .fieldAddr S p f=>eL σ (di P S f (σ.ev p))
 | .indexAddr T x i=>eL σ (dy P σ.hp T (σ.ev x) (σ.ev i))
 | .field S x f=>eL σ (qm P S f (σ.ev x))
 | .extract x j=>eL σ (gE j (σ.ev x))
 | .build T parts=>eL σ (qn P T (parts.toList.map fun p=>(p.1,σ.ev p.2)))
 | .buildSlice T n parts=>eK P σ id T n (parts.toList.map fun p=>(p.1,σ.ev p.2))
 | .makeFunc (.func f) first caps=>if first.size=0 then eL σ (zO f (caps.toList.map σ.ev)) else none
 | .slice T x lo hi mx=>if mx.isSome=true then none else if ii (σ.ev x)=true then eL σ (dz P σ.ev o) else lH P σ id T (σ.ev x) (lo.map σ.ev) (hi.map σ.ev)
 | .convert s d x=>if (σ.ev x).val?.isSome=true∧ii (σ.ev x)=true∨(σ.ev x).val?.isSome=true∧(wL P σ.hp s d (σ.ev x)).isSome=false then eL σ (dz P σ.ev o) else if ii (σ.ev x)=true then none else eL σ (wL P σ.hp s d (σ.ev x))
 | .binOp ..=>eL σ (dz P σ.ev o)
 | .unOp ..=>eL σ (dz P σ.ev o)
 | .index ..=>eL σ (dz P σ.ev o)
 | .call c=>EffCall P o σ id c
 | _=>none
section
variable {P:Program}{C:Ctx}{φ:Nat→Lc}{F:Nat→List Nat}{St:Nat→Prop}{σ:AS}{a:Act}{w:World}
theorem dI (h:SimF C φ F St σ a w){o:Oper}{x:AV}{σ':AS}{e:Option AV}(he:eL σ e=some (x,σ'))(hr:∀y,e=some y→∃v,(execOp a.eval o).run P w=.ok (.value v) w∧VR w St φ σ.Kn y v):OpTo P C o a w x σ':=by
 simp only [eL,Option.map_eq_some_iff] at he
 obtain⟨y,hy,he⟩:=he
 injection he with e1 e2
 subst e1 e2
 obtain⟨v,h1,h2⟩:=hr y hy
 exact⟨_,v,w,h1,.inl rfl,φ,F,St,h,h2⟩
theorem qp {o:Oper}{x:AV}{σ':AS}{s:Sem Value}(ho:execOp a.eval o=(do pure (Next.value (←s))))(hr:∃v w',s.run P w=.ok v w'∧PostS C σ' a x v w'):OpTo P C o a w x σ':=by
 obtain⟨v,w',h1,h2⟩:=hr
 exact⟨_,v,w',by rw [ho];simp [Sem.run_bind,h1],.inl rfl,h2⟩
theorem tq (h:SimF C φ F St σ a w){o:Oper}{id:Nat}{x:AV}{σ':AS}(he:Eff P o σ id=some (x,σ')):OpTo P C o a w x σ':=by
 have oY:∀{x:AV} {σ':AS},eL σ (dz P σ.ev o)=some (x,σ')→OpTo P C o a w x σ':=fun he=>dI h he fun y hy=>wM h hy (P:=P)
 obtain⟨dst,op,type,pos,after,guard⟩:=o
 cases op<;>simp only [Eff] at he<;>(try cases he;done)
 case move y =>
  injection he with he;injection he with e1 e2;subst e1 e2
  exact⟨_,a.eval y,w,rfl,.inl rfl,φ,F,St,h,h.ev y⟩
 case assign y =>
  injection he with he;injection he with e1 e2;subst e1 e2
  exact⟨_,a.eval y,w,rfl,.inl rfl,φ,F,St,h,h.ev y⟩
 case pick c y z =>
  refine dI h he fun q hq=>?_
  unfold tf at hq
  split at hq
  ·rename_i t hc
   injection hq with hq;subst hq
   have hcv:=h.ev c
   rw [hc] at hcv
   simp only [VR,CR] at hcv
   refine⟨if t then a.eval y else a.eval z,?_,?_⟩
   ·simp [execOp,hcv.1,asBool]
   ·cases t
    ·exact h.ev z
    ·exact h.ev y
  ·cases hq
 case alloc T=>exact qp (s:=Instr.alloc T true (.tuple #[])) rfl (tg h he)
 case box T y=>exact qp (s:=Instr.box T (a.eval y)) rfl (zL h (h.ev y) he)
 case load t p=>exact dI h he fun q hq=>by obtain⟨v,h1,h2⟩:=nq (P:=P) h (h.ev p) hq;exact⟨v,by simp [execOp,h1],h2⟩
 case store t p y =>
  obtain⟨w',h1,h2⟩:=th h (h.ev p) (h.ev y) he
  exact⟨.skip,undef,w',by simp [execOp,h1],.inr ⟨rfl,rfl⟩,h2⟩
 case nilCheck y =>
  refine dI h he fun q hq=>?_
  obtain⟨rfl,h1⟩:=zM (P:=P) (w:=w) (h.ev y) hq
  exact⟨_,h1 _ _ y rfl rfl,h.ev y⟩
 case fieldAddr S p f=>exact dI h he fun q hq=>by obtain⟨v,h1,h2⟩:=mc (P:=P) (w:=w) (h.ev p) hq;exact⟨v,by simp [execOp,h1],h2⟩
 case indexAddr T y i=>exact dI h he fun q hq=>by obtain⟨v,h1,h2⟩:=me (P:=P) h (h.ev y) (h.ev i) hq;exact⟨v,by simp [execOp,h1],h2⟩
 case field S y f=>exact dI h he fun q hq=>by obtain⟨v,h1,h2⟩:=tj (P:=P) (w:=w) (h.ev y) hq;exact⟨v,by simp [execOp,h1],h2⟩
 case extract y j=>exact dI h he fun q hq=>by obtain⟨v,h1,h2⟩:=oZ (P:=P) (w:=w) (h.ev y) hq;exact⟨v,by simp [execOp,h1],h2⟩
 case build T parts =>
  refine dI h he fun q hq=>?_
  obtain⟨v,h1,h2⟩:=tl (P:=P) (w:=w) (vs:=parts.map fun (i,x)=>(i,a.eval x)) (by rw [Array.toList_map];exact prl h parts.toList) hq
  exact⟨v,by simp [execOp,h1],h2⟩
 case buildSlice T n parts=>exact qp (s:=Instr.buildSlice T n (parts.map fun (i,x)=>(i,a.eval x))) rfl (lf h (vs:=parts.map fun (i,x)=>(i,a.eval x)) (by rw [Array.toList_map];exact prl h parts.toList) he)
 case makeFunc fn first caps =>
  cases fn<;>simp only [] at he<;>(try cases he;done)
  rename_i f
  split at he
  ·rename_i hf
   obtain rfl:first=#[]:=Array.eq_empty_of_size_eq_zero hf
   refine dI h he fun q hq=>?_
   simp only [zO,Option.map_eq_some_iff] at hq
   obtain⟨cs,h1,rfl⟩:=hq
   have h2:=j5 (evs h caps.toList) h1
   refine⟨.func (.func f) #[] (caps.map a.eval),by simp [execOp,Instr.makeFunc],?_⟩
   simp only [VR,CR]
   exact⟨trivial,caps.toList.map a.eval,by rw [←Array.toList_map,Array.toArray_toList],h2⟩
  ·cases he
 case slice T y lo hi mx =>
  split at he
  ·cases he
  ·rename_i hmx
   obtain rfl:mx=none:=by cases mx<;>simp_all
   split at he
   ·exact oY he
   ·refine qp (s:=Instr.sliceAt T (a.eval y) (lo.map a.eval) (hi.map a.eval) none) rfl (tn (P:=P) h (h.ev y) (ulo:=lo.map a.eval) (uhi:=hi.map a.eval) ?_ ?_ he)
    ·cases lo with
     | none=>trivial
     | some z=>exact h.ev z
    ·cases hi with
     | none=>trivial
     | some z=>exact h.ev z
 case convert s d y =>
  split at he
  ·exact oY he
  ·split at he
   ·cases he
   ·rename_i hs
    exact dI h he fun q hq=>by obtain⟨v,h1,h2⟩:=zP (P:=P) h (h.ev y) (by simpa using hs) hq;exact⟨v,by simp [execOp,h1],h2⟩
 case binOp=>exact oY he
 case unOp=>exact oY he
 case index=>exact oY he
 case call c =>
  obtain⟨callee,args,argTypes⟩:=c
  unfold EffCall at he
  split at he
  ·rename_i y t hc ha ht
   simp only at hc ha ht
   subst hc
   obtain rfl:args=#[y]:=by rw [←Array.toArray_toList (xs:=args),ha]
   obtain rfl:argTypes=#[t]:=by rw [←Array.toArray_toList (xs:=argTypes),ht]
   split at he
   ·rename_i hok
    refine dI h he fun q hq=>?_
    obtain⟨n,rfl,hn⟩:=zN (h.ev y) hq
    have hs:ii (σ.ev y)=true↔∃s,a.eval y=.string s:=by
     have hy:=h.ev y
     constructor
     ·intro hs
      unfold ii at hs
      split at hs
      ·rename_i s e;rw [e] at hy;simp only [VR,CR] at hy;exact⟨s,hy.1⟩
      ·cases hs
     ·rintro ⟨s,e⟩
      rw [e] at hy
      generalize σ.ev y=z at hq hy ⊢
      unfold yR at hq
      split at hq<;>(try cases hq)<;>simp only [VR,CR] at hy
      ·obtain⟨_,_,_,A,c,hy⟩:=hy;cases hy
      ·obtain⟨_,A,c,hy,_⟩:=hy;cases hy
      ·obtain⟨hy,_⟩:=hy;cases hy
      ·rfl
    refine⟨.int .i64 n,?_,by simp only [VR,CR];exact⟨trivial,rfl,trivial⟩⟩
    unfold mg at hok
    split at hok
    ·rename_i e hu
     rcases hn with ⟨A,c,e'⟩|⟨s,e',_⟩
     ·simp [execOp,resolve,invoke,builtin,Builtin.len_,run_underlying hu,e',goInt]
     ·have:=hs.2 ⟨s,e'⟩;rw [this] at hok;cases hok
    ·rename_i hu
     rcases hn with ⟨A,c,e'⟩|⟨s,e',rfl⟩
     ·obtain⟨s,e''⟩:=hs.1 hok;rw [e'] at e'';cases e''
     ·simp [execOp,resolve,invoke,builtin,Builtin.len_,run_underlying hu,e',goInt]
    ·cases hok
   ·cases he
  ·rename_i y z T T2 hc ha ht
   simp only at hc ha ht
   subst hc
   obtain rfl:args=#[y,z]:=by rw [←Array.toArray_toList (xs:=args),ha]
   obtain rfl:argTypes=#[T,T2]:=by rw [←Array.toArray_toList (xs:=argTypes),ht]
   obtain⟨v,w',h1,h2⟩:=rB (P:=P) h (h.ev y) (h.ev z) he type
   exact⟨.value v,v,w',by simp [execOp,resolve,invoke,builtin,h1],.inl rfl,h2⟩
  ·exact oY he
  ·exact oY he
  ·cases he
end
mutual
def clo:AC→Bool
 | .v _=>true
 | .ro _ _ l=>bf l
 | .ow _ _ _ l=>bf l
 | .sl ..=>false
 | .pt ..=>false
 | .rp l _=>bf l
 | .fn _ c=>bf c
 | .bx _ l=>bf l
 | .un=>true
 | .nn=>true
 | .mp _=>true
def bf:List AC→Bool
 | []=>true
 | c :: r=>clo c&&bf r
end
mutual
def j6:AC→Bool
 | .v _=>true
 | .ro _ _ _=>false
 | .ow _ _ _ l=>dm l
 | .sl ..=>true
 | .pt ..=>true
 | .rp _ _=>false
 | .fn _ c=>dm c
 | .bx _ l=>dm l
 | .un=>true
 | .nn=>true
 | .mp _=>false
def dm:List AC→Bool
 | []=>true
 | c :: r=>j6 c&&dm r
end
mutual
def o4:AC→AC
 | .v x=>.v x
 | .ro n k l=>.ro n k l
 | .ow _ n k l=>.ro n k (fJ l)
 | _=>.un
def fJ:List AC→List AC
 | []=>[]
 | c :: r=>o4 c :: fJ r
end
theorem eE:∀l,bf l=true↔∀c∈l,clo c=true
 | []=>by simp [bf]
 | c :: r=>by simp [bf,eE r]
theorem fq:∀l,dm l=true↔∀c∈l,j6 c=true
 | []=>by simp [dm]
 | c :: r=>by simp [dm,fq r]
theorem mh:∀l,fJ l=l.map o4
 | []=>rfl
 | c :: r=>by rw [fJ,mh r];rfl
theorem tt (l:List AC):(fJ l).length=l.length:=by rw [mh];simp
section
variable {w w':World}{St St':Nat→Prop}{φ φ':Nat→Lc}{K K':Nat→Prop}
theorem CR.clo_:∀(c:AC) (u:Value) (fp:List Nat),clo c=true→CR w St φ K c u fp→CR w St φ' K' c u fp:=by
 intro c
 induction c using AC.ind with
 | h1 x=>intro u fp _ h;simp only [CR] at h ⊢;exact h
 | h2 n k l ih =>
  intro u fp hc h
  simp only [clo,eE] at hc
  simp only [CR] at h ⊢
  obtain⟨h0,A,c,h1,h2,h3,h4⟩:=h
  refine⟨h0,A,c,h1,h2,h3,fun hn=>?_⟩
  obtain⟨b,o,us,e1,e2,e3,e4,e5⟩:=h4 hn
  exact⟨b,o,us,e1,e2,e3,e4,e5.imp fun d hd u f _ hc'=>ih d hd u f (hc d hd) hc'⟩
 | h3 T n k l ih =>
  intro u fp hc h
  simp only [clo,eE] at hc
  simp only [CR] at h ⊢
  obtain⟨us,fs,h1,h2,h3⟩:=h
  exact⟨us,fs,h1.imp fun d hd u f _ hc'=>ih d hd u f (hc d hd) hc',h2,h3⟩
 | h4 i n=>intro u fp hc;simp [clo] at hc
 | h5 i o=>intro u fp hc;simp [clo] at hc
 | h6 l o ih =>
  intro u fp hc h
  simp only [clo,eE] at hc
  simp only [CR] at h ⊢
  obtain⟨h0,b,p,us,e1,e2,e3,e4,e5⟩:=h
  exact⟨h0,b,p,us,e1,e2,e3,e4,e5.imp fun d hd u f _ hc'=>ih d hd u f (hc d hd) hc'⟩
 | h7 f c ih =>
  intro u fp hc h
  simp only [clo,eE] at hc
  simp only [CR] at h ⊢
  obtain⟨h0,us,e1,e2⟩:=h
  exact⟨h0,us,e1,e2.imp fun d hd u f _ hc'=>ih d hd u f (hc d hd) hc'⟩
 | h9 T l ih =>
  intro u fp hc h
  simp only [clo,eE] at hc
  simp only [CR] at h ⊢
  obtain⟨b,us,fs,e1,e2,e3,e4⟩:=h
  exact⟨b,us,fs,e1,e2,e3.imp fun d hd u f _ hc'=>ih d hd u f (hc d hd) hc',e4⟩
 | h8=>intro u fp _ h;simp only [CR] at h ⊢;exact h
 | hn=>intro u fp _ h;simp only [CR] at h ⊢;exact h
 | hm l=>intro u fp _ h;simp only [CR] at h ⊢;exact h
theorem CRL.clo_ {l:List AC}{us:List Value}{fp:List Nat}(hc:bf l=true)(h:CRL w St φ K l us fp):CRL w St φ' K' l us fp :=
 h.imp fun d hd u f _ h'=>CR.clo_ d u f ((eE l).1 hc d hd) h'
theorem CR.rofr_:∀(c:AC) (u:Value) (fp:List Nat),j6 c=true→CR w St φ K c u fp→CR w St' φ K c u fp:=by
 intro c
 induction c using AC.ind with
 | h1 x=>intro u fp _ h;simp only [CR] at h ⊢;exact h
 | h2 n k l ih=>intro u fp hc;simp [j6] at hc
 | h3 T n k l ih =>
  intro u fp hc h
  simp only [j6,fq] at hc
  simp only [CR] at h ⊢
  obtain⟨us,fs,h1,h2,h3⟩:=h
  exact⟨us,fs,h1.imp fun d hd u f _ hc'=>ih d hd u f (hc d hd) hc',h2,h3⟩
 | h4 i n=>intro u fp _ h;simp only [CR] at h ⊢;exact h
 | h5 i o=>intro u fp _ h;simp only [CR] at h ⊢;exact h
 | h6 l o ih=>intro u fp hc;simp [j6] at hc
 | h7 f c ih =>
  intro u fp hc h
  simp only [j6,fq] at hc
  simp only [CR] at h ⊢
  obtain⟨h0,us,e1,e2⟩:=h
  exact⟨h0,us,e1,e2.imp fun d hd u f _ hc'=>ih d hd u f (hc d hd) hc'⟩
 | h9 T l ih =>
  intro u fp hc h
  simp only [j6,fq] at hc
  simp only [CR] at h ⊢
  obtain⟨b,us,fs,e1,e2,e3,e4⟩:=h
  exact⟨b,us,fs,e1,e2,e3.imp fun d hd u f _ hc'=>ih d hd u f (hc d hd) hc',e4⟩
 | h8=>intro u fp _ h;simp only [CR] at h ⊢;exact h
 | hn=>intro u fp _ h;simp only [CR] at h ⊢;exact h
 | hm l=>intro u fp hc;simp [j6] at hc
theorem CRL.rofr_ {l:List AC}{us:List Value}{fp:List Nat}(hc:dm l=true)(h:CRL w St φ K l us fp):CRL w St' φ K l us fp :=
 h.imp fun d hd u f _ h'=>CR.rofr_ d u f ((fq l).1 hc d hd) h'
theorem CRL.toRo_of:∀{l:List AC} {us:List Value} {fp:List Nat},(∀c∈l,∀u f,(∀b∈f,b∈fp)→CR w St φ K c u f→CR w St' φ' K' (o4 c) u [])→CRL w St φ K l us fp→CRL w St' φ' K' (fJ l) us []
 | [],us,fp,_,h=>by simp only [CRL] at h;rw [h.1];simp only [fJ];exact CRL.nil
 | c :: r,us,fp,hh,h=>by
  simp only [CRL] at h
  obtain⟨u,us',f1,f2,rfl,rfl,h1,h2⟩:=h
  simp only [fJ]
  exact CRL.cons (f:=[]) (f':=[]) (hh c List.mem_cons_self u f1 (fun b hb=>List.mem_append_left _ hb) h1) (CRL.toRo_of (fun d hd u f hf=>hh d (List.mem_cons_of_mem _ hd) u f fun b hb=>List.mem_append_right _ (hf b hb)) h2)
theorem CR.toRo_ (hS:∀b,St b→St' b):∀(c:AC) (u:Value) (fp:List Nat),clo c=true→(∀b∈fp,St' b)→CR w St φ K c u fp→CR w St' φ' K' (o4 c) u []:=by
 intro c
 induction c using AC.ind with
 | h1 x=>intro u fp _ _ h;simp only [o4,CR] at h ⊢;exact⟨h.1,h.2.1,trivial⟩
 | h2 n k l ih =>
  intro u fp hc hf h
  have h':=CR.clo_ (φ':=φ') (K':=K') _ _ _ hc h
  have h0:fp=[]:=by simp only [CR] at h;exact h.1
  subst h0
  have:∀(c:AC) (u:Value) (fp:List Nat),(∀b∈fp,w.heap[b]? = w.heap[b]?)→CR w St φ' K' c u fp→CR w St' φ' K' c u fp:=CR.mono (fun b hb _=>⟨hS b hb,rfl⟩) (Nat.le_refl _) (fun i hi=>⟨hi,rfl⟩)
  simp only [o4]
  exact this _ _ _ (fun _ _=>rfl) h'
 | h3 T n k l ih =>
  intro u fp hc hf h
  simp only [clo,eE] at hc
  simp only [o4,CR] at h ⊢
  obtain⟨us,fs,h1,h2,rfl⟩:=h
  have hro:CRL w St' φ' K' (fJ l) us []:=h1.toRo_of fun d hd u f hf' hc'=>ih d hd u f (hc d hd) (fun b hb=>hf b (List.mem_append_right _ (hf' b hb))) hc'
  have hlen:(fJ l).length=n*k:=by rw [tt,←h1.len,h2.1]
  rcases id h2.2 with ⟨rfl,rfl⟩|⟨g,cap,cur,rfl,_,hh,hn,hcap,hs,ht⟩
  ·exact⟨trivial,none,0,rfl,⟨Nat.le_refl _,by unfold maxLen;omega,fun _=>rfl⟩,hlen,fun h0=>absurd h0 omq⟩
  ·refine⟨trivial,_,cap,rfl,⟨hn,hcap,fun e=>by cases e⟩,hlen,fun _=>⟨g,0,us,rfl,hf g (by simp [obl,Value.ownBlock]),(Array.getElem?_eq_some_iff.1 hh).1,fun i x hx=>?_,hro⟩⟩
   have:=h2.cells (g:=g) rfl i x hx
   rwa [Addr.add_lit] at this
 | h4 i n=>intro u fp hc;simp [clo] at hc
 | h5 i o=>intro u fp hc;simp [clo] at hc
 | h6 l o ih=>intro u fp _ _ _;simp [o4,CR]
 | h7 f c ih=>intro u fp _ _ _;simp [o4,CR]
 | h9 T l ih=>intro u fp _ _ _;simp [o4,CR]
 | h8=>intro u fp _ _ _;simp [o4,CR]
 | hn=>intro u fp _ _ _;simp [o4,CR]
 | hm l=>intro u fp _ _ _;simp [o4,CR]
end
mutual
def VRF (w:World)(St:Nat→Prop)(φ:Nat→Lc)(K:Nat→Prop):AV→Value→List Nat→Prop
 | .c x,u,fp=>CR w St φ K x u fp
 | .ag l,u,fp=>∃us,u=.agg us.toArray∧CRL w St φ K l us fp
 | .tu l,u,fp=>∃us,u=.tuple us.toArray∧VRFL w St φ K l us fp
def VRFL (w:World)(St:Nat→Prop)(φ:Nat→Lc)(K:Nat→Prop):List AV→List Value→List Nat→Prop
 | [],us,fp=>us=[]∧fp=[]
 | c :: r,us,fp=>∃u us' f f',us=u :: us'∧fp=f++f'∧VRF w St φ K c u f∧VRFL w St φ K r us' f'
end
def φ0:Nat→Lc:=fun _=>.box 0 0
def K0:Nat→Prop:=fun _=>False
def jA (F:Nat→List Nat)(N:Nat):Nat→Prop:=fun b=>∃i,i<N∧b∈F i
def o5 (φ:Nat→Lc)(pars:List (List AC)):Nat→Nat→Prop:=fun b o=>∃i lo cs,pars[i]? = some cs∧φ i=.box b lo∧lo≤o∧o<lo+cs.length
structure Ent (w:World)(St:Nat→Prop)(φ:Nat→Lc)(F:Nat→List Nat)(ins:List AV)(us:List Value)(pars:List (List AC)):Prop where
 args:VRL w St φ (fun i=>i<pars.length) ins us
 row:∀i cs,pars[i]? = some cs→∃b lo vs,φ i=.box b lo∧CRL w St φ (fun i=>i<pars.length) cs vs (F i)∧BoxAt w b lo vs
 nod:∀i,i<pars.length→(F i).Nodup
 dis:∀i j,i<pars.length→j<pars.length→i≠j→∀b∈F i,b∉F j
 bxF:∀i j b lo,i<pars.length→j<pars.length→φ i=.box b lo→b∉F j
 bxd:∀i j b lo lo' (ci cj:List AC),pars[i]? = some ci→pars[j]? = some cj→i≠j→φ i=.box b lo→φ j=.box b lo'→lo+ci.length≤lo'∨lo'+cj.length≤lo
 stF:∀i b,i<pars.length→b∈F i→¬St b
 stB:∀i b lo,i<pars.length→φ i=.box b lo→¬St b
 gl:GlobOk w∧∀b,isG b→¬jA F pars.length b∧∀o,¬o5 φ pars b o
structure Ext (w w':World)(St:Nat→Prop)(φ:Nat→Lc)(F:Nat→List Nat)(pars:List (List AC))(res:AV)(u:Value)(rows:List (List AC))(St':Nat→Prop)(F':Nat→List Nat)(G:List Nat):Prop where
 frm:Fc (jA F pars.length) (o5 φ pars) w w'
 res:VRF w' St' φ0 K0 res u G
 nodG:G.Nodup
 len:rows.length=pars.length
 row:∀i cs,rows[i]? = some cs→∃b lo vs,φ i=.box b lo∧CRL w' St' φ0 K0 cs vs (F' i)∧BoxAt w' b lo vs∧∃cs0,pars[i]? = some cs0∧cs.length=cs0.length
 nod:∀i,i<pars.length→(F' i).Nodup
 disG:∀i,i<pars.length→∀b∈F' i,b∉G
 dis:∀i j,i<pars.length→j<pars.length→i≠j→∀b∈F' i,b∉F' j
 bxF:∀i b lo,i<pars.length→φ i=.box b lo→b∉G∧∀j,j<pars.length→b∉F' j
 own:∀b,(b∈G∨∃i,i<pars.length∧b∈F' i)→(jA F pars.length b∨w.heap.size≤b)
 sta:∀b,St' b→(b<w.heap.size→St b∨jA F pars.length b)∧b∉G∧∀i,i<pars.length→b∉F' i∧∀lo,φ i≠.box b lo
def Fun (P:Program)(f:FuncId)(ins:List AV)(pars:List (List AC))(Post:AV→List (List AC)→Prop):Prop :=
 ∀(w:World) (St:Nat→Prop) (φ:Nat→Lc) (F:Nat→List Nat) (us:List Value),Ent w St φ F ins us pars →
  Calls P f us.toArray w fun e w'=>∃res rows u St' F' G,Post res rows∧e=.returned u∧Ext w w' St φ F pars res u rows St' F' G
theorem Fun.mono {P:Program}{f:FuncId}{ins:List AV}{pars:List (List AC)}{Post Post':AV→List (List AC)→Prop}(h:Fun P f ins pars Post)(hp:∀r c,Post r c→Post' r c):Fun P f ins pars Post' :=
 fun w St φ F us he=>(h w St φ F us he).mono fun _ _ ⟨res,rows,u,St',F',G,h1,h2⟩=>⟨res,rows,u,St',F',G,hp _ _ h1,h2⟩
def σ0 (ins:List AV)(pars:List (List AC))(nt:Nat):AS :=
 { tm:=fun t=>(ins[t]?).getD (.c .un),hp:=fun i=>(pars[i]?).map fun cs=>⟨0,0,0,true,cs⟩,gn:=pars.length,us:=[],L:=ins.length+(nt-ins.length) }
def plOf (φ:Nat→Lc)(i:Nat):Nat×Nat:=match φ i with | .box b lo=>(b,lo)|_=>(0,0)
def rC (w:World)(St:Nat→Prop)(φ:Nat→Lc)(F:Nat→List Nat)(pars:List (List AC)):Ctx :=
 { w0:=w,N:=pars.length,pl:=plOf φ,M:=jA F pars.length,R:=o5 φ pars,S0:=St }
theorem VRL.len {w:World}{St:Nat→Prop}{φ:Nat→Lc}{K:Nat→Prop}:∀{l:List AV} {us:List Value},VRL w St φ K l us→us.length=l.length
 | [],us,h=>by simp only [VRL] at h;simp [h]
 | c :: r,us,h=>by simp only [VRL] at h;obtain⟨u,us',rfl,_,h2⟩:=h;simp [h2.len]
section
variable {P:Program}{w:World}{St:Nat→Prop}{φ:Nat→Lc}{F:Nat→List Nat}{ins:List AV}{us:List Value}{pars:List (List AC)}
theorem Ent.sim (h:Ent w St φ F ins us pars)(nt:Nat):SimF (rC w St φ F pars) φ F St (σ0 ins pars nt) { tmps:=us.toArray++Array.replicate (nt-us.toArray.size) undef,defers:=[] } w:=by
 have hl:=h.args.len
 have hKn:(σ0 ins pars nt).Kn=fun i=>i<pars.length:=by funext i;simp [AS.Kn,σ0]
 have hrow:∀i r,(σ0 ins pars nt).hp i=some r→∃cs,pars[i]? = some cs∧r=⟨0,0,0,true,cs⟩∧i<pars.length:=by
  intro i r hr
  simp only [σ0,Option.map_eq_some_iff] at hr
  obtain⟨cs,h1,h2⟩:=hr
  exact⟨cs,h1,h2.symm,(List.getElem?_eq_some_iff.1 h1).1⟩
 refine⟨rfl,by simp [σ0,hl],fun t=>?_,fun i r hr=>?_,fun i r hr=>?_,fun i j r s hr hs hij=>?_,fun i j r s b lo hr hs=>?_,fun i j r s b lo lo' hr hs hij e e'=>?_,fun i r b hr=>?_,fun i r b lo hr=>?_,Fc.refl _ _ _,fun i r b hr hb=>?_,fun i hi=>?_,fun i r b lo hr e hN=>?_,⟨Nat.le_refl _,h.gl⟩,fun b hb _=>.inl hb⟩
 ·rw [hKn]
  show VR w St φ _ ((ins[t]?).getD (.c .un)) _
  rcases Nat.lt_or_ge t ins.length with ht|ht
  ·rw [List.getElem?_eq_getElem ht]
   obtain⟨u,h1,h2⟩:=h.args.at_ (List.getElem?_eq_getElem ht)
   have e:(us.toArray++Array.replicate (nt-us.toArray.size) undef).getD t undef=u:=by
    rw [Array.getD_eq_getD_getElem?,Array.getElem?_append_left (by simp [hl,ht])]
    simp [h1]
   rw [e];exact h2
  ·rw [List.getElem?_eq_none ht];exact jI _
 ·obtain⟨cs,h1,rfl,hi⟩:=hrow i r hr
  obtain⟨b,lo,vs,e,h2,h3⟩:=h.row i cs h1
  rw [hKn,e]
  exact⟨hi,rfl,vs,h2,h3⟩
 ·obtain⟨_,_,_,hi⟩:=hrow i r hr;exact h.nod i hi
 ·obtain⟨_,_,_,hi⟩:=hrow i r hr;obtain⟨_,_,_,hj⟩:=hrow j s hs;exact h.dis i j hi hj hij
 ·obtain⟨_,_,_,hi⟩:=hrow i r hr;obtain⟨_,_,_,hj⟩:=hrow j s hs;exact h.bxF i j b lo hi hj
 ·obtain⟨ci,h1,rfl,hi⟩:=hrow i r hr;obtain⟨cj,h2,rfl,hj⟩:=hrow j s hs;exact h.bxd i j b lo lo' ci cj h1 h2 hij e e'
 ·obtain⟨_,_,_,hi⟩:=hrow i r hr;exact h.stF i b hi
 ·obtain⟨_,_,_,hi⟩:=hrow i r hr;exact h.stB i b lo hi
 ·obtain⟨_,_,_,hi⟩:=hrow i r hr;exact .inl ⟨i,hi,hb⟩
 ·have hi':i<pars.length:=hi
  obtain⟨b,lo,vs,e,h2,h3⟩:=h.row i pars[i] (List.getElem?_eq_getElem hi')
  refine⟨by simp [rC,plOf,e],fun r hr j hj=>?_⟩
  obtain⟨cs,h1,rfl,_⟩:=hrow i r hr
  refine⟨i,lo,cs,h1,by simp [rC,plOf,e],?_,?_⟩
  ·simp [rC,plOf,e]
  ·have hj':j<cs.length:=hj
   simp [rC,plOf,e];exact hj'
 ·obtain⟨_,_,_,hi⟩:=hrow i r hr
  have:pars.length≤i:=hN
  omega
end
def wy (P:Program)(hp:Nat→Option Row)(tm:Nat→AV):List ResultVar→Option (List AV)
 | []=>some []
 | .tmp t :: r=>(wy P hp tm r).map (tm t :: ·)
 | .cell p ty :: r=>(fo P ty hp (tm p)).bind fun x=>(wy P hp tm r).map (x :: ·)
def j7 (tmps:Array Value):ResultVar→Sem Value
 | .tmp t=>pure (tmps.getD t undef)
 | .cell p t=>do loadVar t (←asAddr (tmps.getD p undef))
def j8:List AV→AV
 | [x]=>x
 | l=>.tu l
def clC (hp:Nat→Option Row):AC→Option (AC×(Nat→Option Row))
 | .sl i n =>
  match hp i with
  | some r=>if r.box=false∧r.n=n∧bf r.cs=true then some (.ow r.T n r.k r.cs,upd hp i none) else none
  | none=>none
 | c=>if clo c=true then some (c,hp) else none
def clL (hp:Nat→Option Row):List AC→Option (List AC×(Nat→Option Row))
 | []=>some ([],hp)
 | c :: r=>(clC hp c).bind fun q=>(clL q.2 r).map fun s=>(q.1 :: s.1,s.2)
mutual
def clV (hp:Nat→Option Row):AV→Option (AV×(Nat→Option Row))
 | .c x=>(clC hp x).map fun q=>(.c q.1,q.2)
 | .ag l=>(clL hp l).map fun q=>(.ag q.1,q.2)
 | .tu l=>(wB hp l).map fun q=>(.tu q.1,q.2)
def wB (hp:Nat→Option Row):List AV→Option (List AV×(Nat→Option Row))
 | []=>some ([],hp)
 | c :: r=>(clV hp c).bind fun q=>(wB q.2 r).map fun s=>(q.1 :: s.1,s.2)
end
section
variable {P:Program}{C:Ctx}{φ:Nat→Lc}{F:Nat→List Nat}{St:Nat→Prop}{σ:AS}{a:Act}{w:World}
theorem mi (h:SimF C φ F St σ a w):∀(rs:List ResultVar) (l:List AV),wy P σ.hp σ.tm rs=some l →
 ∃vs,(rs.mapM (j7 a.tmps)).run P w=.ok vs w∧VRL w St φ σ.Kn l vs
 | [],l,he=>by simp only [wy,Option.some.injEq] at he;subst he;exact⟨[],by simp,by simp [VRL]⟩
 | .tmp t :: r,l,he=>by
  simp only [wy,Option.map_eq_some_iff] at he
  obtain⟨l',h1,rfl⟩:=he
  obtain⟨vs,h2,h3⟩:=mi h r l' h1
  refine⟨a.tmps.getD t undef :: vs,?_,by simp only [VRL];exact⟨_,_,rfl,h.tms t,h3⟩⟩
  rw [List.mapM_cons]
  simp only [j7,Sem.run_bind,Sem.run_pure,Result.andThen_ok,h2]
 | .cell p ty :: r,l,he=>by
  simp only [wy,Option.bind_eq_some_iff,Option.map_eq_some_iff] at he
  obtain⟨x,hx,l',h1,rfl⟩:=he
  obtain⟨vs,h2,h3⟩:=mi h r l' h1
  obtain⟨v,h4,h5⟩:=nq (P:=P) h (h.tms p) hx
  refine⟨v :: vs,?_,by simp only [VRL];exact⟨_,_,rfl,h5,h3⟩⟩
  have h6:(j7 a.tmps (.cell p ty)).run P w=.ok v w:=by
   have:=h4
   show (do loadVar ty (←asAddr (a.tmps.getD p undef)):Sem Value).run P w=.ok v w
   generalize a.tmps.getD p undef=q at *
   cases q<;>try (simp [Instr.loadAt,Instr.sureAddr,stuck,Sem.run] at this;done)
   rename_i ad
   cases ad with
   | none=>simp [Instr.loadAt,Instr.sureAddr,stuck,Sem.run] at this
   | some ad=>simpa [Instr.loadAt,Instr.sureAddr,asAddr] using this
  rw [List.mapM_cons]
  simp only [Sem.run_bind,Sem.run_pure,Result.andThen_ok,h2,h6]
theorem Free.drop {b:Nat}(h:Free C φ F St σ b)(i:Nat):Free C φ F St { σ with hp:=upd σ.hp i none } b:=by
 refine⟨fun j s hj=>h.1 j s ?_,h.2⟩
 have hj':upd σ.hp i none j=some s:=hj
 by_cases hji:j=i
 ·subst hji;rw [aX] at hj';cases hj'
 ·rwa [bh _ _ hji] at hj'
theorem yS (h:SimF C φ F St σ a w){c c':AC}{u:Value}{hp':Nat→Option Row}(hx:CR w St φ σ.Kn c u [])(he:clC σ.hp c=some (c',hp')) :
 ∃fp,CR w St φ0 K0 c' u fp∧SimF C φ F St { σ with hp:=hp' } a w∧fp.Nodup∧(∀b∈fp,Free C φ F St { σ with hp:=hp' } b∧∃i r,σ.hp i=some r∧b∈F i)∧(∀b,Free C φ F St σ b→Free C φ F St { σ with hp:=hp' } b)∧∀i r,hp' i=some r→σ.hp i=some r:=by
 unfold clC at he
 split at he
 ·rename_i i n
  split at he
  ·rename_i r hr
   split at he
   ·rename_i hc
    obtain⟨hb,rfl,hcl⟩:=hc
    injection he with he;injection he with e1 e2;subst e1 e2
    simp only [CR] at hx
    obtain⟨_,_,eφ,A,cc,rfl⟩:=hx
    have hrow:=(h.row i r hr).2
    rw [eφ] at hrow
    obtain⟨_,us,fs,g1,g2,g3⟩:=hrow
    refine⟨F i,?_,h.drop i,h.nod i r hr,fun b hb=>⟨h.free hr hb,i,r,hr,hb⟩,fun b hb=>hb.drop i,fun j s hj=>?_⟩
    ·simp only [CR]
     exact⟨us,fs,g1.clo_ hcl,g2,g3⟩
    ·by_cases hji:j=i
     ·subst hji;rw [aX] at hj;cases hj
     ·rwa [bh _ _ hji] at hj
   ·cases he
  ·cases he
 ·split at he
  ·rename_i hc
   injection he with he;injection he with e1 e2;subst e1 e2
   exact⟨[],CR.clo_ _ _ _ hc hx,h,List.nodup_nil,fun b hb=>absurd hb List.not_mem_nil,fun b hb=>hb,fun i r hr=>hr⟩
  ·cases he
theorem yT:∀{l l':List AC} {us:List Value} {hp':Nat→Option Row} {σ:AS},SimF C φ F St σ a w→CRL w St φ σ.Kn l us []→clL σ.hp l=some (l',hp') →
 ∃fp,CRL w St φ0 K0 l' us fp∧SimF C φ F St { σ with hp:=hp' } a w∧fp.Nodup∧(∀b∈fp,Free C φ F St { σ with hp:=hp' } b∧∃i r,σ.hp i=some r∧b∈F i)∧(∀b,Free C φ F St σ b→Free C φ F St { σ with hp:=hp' } b)∧∀i r,hp' i=some r→σ.hp i=some r
 | [],l',us,hp',σ,h,hx,he=>by
  simp only [clL,Option.some.injEq,Prod.mk.injEq] at he
  obtain⟨rfl,rfl⟩:=he
  simp only [CRL] at hx
  obtain⟨rfl,_⟩:=hx
  exact⟨[],CRL.nil,h,List.nodup_nil,fun b hb=>absurd hb List.not_mem_nil,fun b hb=>hb,fun i r hr=>hr⟩
 | c :: r,l',us,hp',σ,h,hx,he=>by
  simp only [clL,Option.bind_eq_some_iff,Option.map_eq_some_iff] at he
  obtain⟨⟨c',hp1⟩,h1,⟨r',hp2⟩,h2,he⟩:=he
  simp only [Prod.mk.injEq] at he
  obtain⟨rfl,rfl⟩:=he
  simp only [CRL] at hx
  obtain⟨u,us',f1,f2,rfl,e,g1,g2⟩:=hx
  have e':=List.append_eq_nil_iff.1 e.symm
  rw [e'.1] at g1
  rw [e'.2] at g2
  obtain⟨fp1,a1,a2,a3,a4,a5,a6⟩:=yS h g1 h1
  obtain⟨fp2,b1,b2,b3,b4,b5,b6⟩:=yT (σ:={ σ with hp:=hp1 }) a2 g2 h2
  refine⟨fp1++fp2,CRL.cons a1 b1,b2,?_,fun b hb=>?_,fun b hb=>b5 b (a5 b hb),fun i r hr=>a6 i r (b6 i r hr)⟩
  ·rw [List.nodup_append]
   refine⟨a3,b3,fun p hp q hq hpq=>?_⟩
   subst hpq
   obtain⟨_,i,r,hi,hm⟩:=b4 p hq
   exact ((a4 p hp).1.1 i r hi).1 hm
  ·rcases List.mem_append.1 hb with hb|hb
   ·exact⟨b5 b (a4 b hb).1,(a4 b hb).2⟩
   ·obtain⟨g,i,r,hi,hm⟩:=b4 b hb
    exact⟨g,i,r,a6 i r hi,hm⟩
def Closed (C:Ctx)(φ:Nat→Lc)(F:Nat→List Nat)(St:Nat→Prop)(a:Act)(w:World)(σ:AS)(hp':Nat→Option Row)(fp:List Nat):Prop :=
 SimF C φ F St { σ with hp:=hp' } a w∧fp.Nodup∧(∀b∈fp,Free C φ F St { σ with hp:=hp' } b∧∃i r,σ.hp i=some r∧b∈F i)∧(∀b,Free C φ F St σ b→Free C φ F St { σ with hp:=hp' } b)∧∀i r,hp' i=some r→σ.hp i=some r
mutual
theorem yU:∀{x x':AV} {u:Value} {hp':Nat→Option Row} {σ:AS},SimF C φ F St σ a w→VR w St φ σ.Kn x u→clV σ.hp x=some (x',hp')→∃fp,VRF w St φ0 K0 x' u fp∧Closed C φ F St a w σ hp' fp
 | .c x,x',u,hp',σ,h,hx,he=>by
  simp only [clV,Option.map_eq_some_iff] at he
  obtain⟨⟨c',hp1⟩,h1,he⟩:=he
  simp only [Prod.mk.injEq] at he
  obtain⟨rfl,rfl⟩:=he
  simp only [VR] at hx
  obtain⟨fp,a1,a2⟩:=yS h hx h1
  exact⟨fp,by simp only [VRF];exact a1,a2⟩
 | .ag l,x',u,hp',σ,h,hx,he=>by
  simp only [clV,Option.map_eq_some_iff] at he
  obtain⟨⟨c',hp1⟩,h1,he⟩:=he
  simp only [Prod.mk.injEq] at he
  obtain⟨rfl,rfl⟩:=he
  simp only [VR] at hx
  obtain⟨us,rfl,hx⟩:=hx
  obtain⟨fp,a1,a2⟩:=yT h hx h1
  exact⟨fp,by simp only [VRF];exact⟨us,rfl,a1⟩,a2⟩
 | .tu l,x',u,hp',σ,h,hx,he=>by
  simp only [clV,Option.map_eq_some_iff] at he
  obtain⟨⟨c',hp1⟩,h1,he⟩:=he
  simp only [Prod.mk.injEq] at he
  obtain⟨rfl,rfl⟩:=he
  simp only [VR] at hx
  obtain⟨us,rfl,hx⟩:=hx
  obtain⟨fp,a1,a2⟩:=tv h hx h1
  exact⟨fp,by simp only [VRF];exact⟨us,rfl,a1⟩,a2⟩
theorem tv:∀{l l':List AV} {us:List Value} {hp':Nat→Option Row} {σ:AS},SimF C φ F St σ a w→VRL w St φ σ.Kn l us→wB σ.hp l=some (l',hp')→∃fp,VRFL w St φ0 K0 l' us fp∧Closed C φ F St a w σ hp' fp
 | [],l',us,hp',σ,h,hx,he=>by
  simp only [wB,Option.some.injEq,Prod.mk.injEq] at he
  obtain⟨rfl,rfl⟩:=he
  simp only [VRL] at hx
  subst hx
  exact⟨[],by simp [VRFL],h,List.nodup_nil,fun b hb=>absurd hb List.not_mem_nil,fun b hb=>hb,fun i r hr=>hr⟩
 | c :: r,l',us,hp',σ,h,hx,he=>by
  simp only [wB,Option.bind_eq_some_iff,Option.map_eq_some_iff] at he
  obtain⟨⟨c',hp1⟩,h1,⟨r',hp2⟩,h2,he⟩:=he
  simp only [Prod.mk.injEq] at he
  obtain⟨rfl,rfl⟩:=he
  simp only [VRL] at hx
  obtain⟨u,us',rfl,g1,g2⟩:=hx
  obtain⟨fp1,a1,a2,a3,a4,a5,a6⟩:=yU h g1 h1
  obtain⟨fp2,b1,b2,b3,b4,b5,b6⟩:=tv (σ:={ σ with hp:=hp1 }) a2 g2 h2
  refine⟨fp1++fp2,by simp only [VRFL];exact⟨u,us',fp1,fp2,rfl,rfl,a1,b1⟩,b2,?_,fun b hb=>?_,fun b hb=>b5 b (a5 b hb),fun i r hr=>a6 i r (b6 i r hr)⟩
  ·rw [List.nodup_append]
   refine⟨a3,b3,fun p hp q hq hpq=>?_⟩
   subst hpq
   obtain⟨_,i,r,hi,hm⟩:=b4 p hq
   exact ((a4 p hp).1.1 i r hi).1 hm
  ·rcases List.mem_append.1 hb with hb|hb
   ·exact⟨b5 b (a4 b hb).1,(a4 b hb).2⟩
   ·obtain⟨g,i,r,hi,hm⟩:=b4 b hb
    exact⟨g,i,r,a6 i r hi,hm⟩
end
theorem nC {K:Nat→Prop}{l:List AV}{vs:List Value}(h:VRL w St φ K l vs):∃v,(if h:vs.toArray.size=1 then vs.toArray[0] else .tuple vs.toArray)=v∧VR w St φ K (j8 l) v:=by
 have hl:=h.len
 rcases l with _|⟨x,_|⟨y,r⟩⟩
 ·obtain rfl:=List.eq_nil_of_length_eq_zero hl
  exact⟨.tuple #[],by simp,by simp only [j8,VR];exact⟨[],rfl,h⟩⟩
 ·simp only [VRL] at h
  obtain⟨u,us',rfl,h1,rfl⟩:=h
  exact⟨u,by simp,by simp only [j8];exact h1⟩
 ·have:vs.length≠1:=by rw [hl];simp
  exact⟨.tuple vs.toArray,by simp [this],by simp only [j8,VR];exact⟨vs,rfl,h⟩⟩
end
def retQ (P:Program)(fn:Func)(pars:List (List AC))(Post:AV→List (List AC)→Prop)(σ:AS):Prop :=
 ∃l x hp' rows,wy P σ.hp σ.tm fn.results.toList=some l∧clV σ.hp (j8 l)=some (x,hp')∧rows.length=pars.length∧(∀i cs,rows[i]? = some cs→bf cs=true∧(∃r,hp' i=some r∧r.cs=cs)∧∃cs0,pars[i]? = some cs0∧cs.length=cs0.length)∧Post x rows
def bodyQ (P:Program)(fn:Func)(pars:List (List AC))(Post:AV→List (List AC)→Prop):Exit→AS→Prop
 | .normal,σ=>retQ P fn pars Post σ
 | .ret,σ=>retQ P fn pars Post σ
 | _,_=>False
def AWp (P:Program)(c:Code)(Q:Exit→AS→Prop)(σ:AS):Prop:=∀C a w,Sim C σ a w→c.wp P (fun e a' w'=>∃σ',Q e σ'∧Sim C σ' a' w') a w
theorem o6 {P:Program}{f:FuncId}{fn:Func}{c:Code}{ins:List AV}{pars:List (List AC)}{Post:AV→List (List AC)→Prop}(hf:P.funcs[f]? = some fn)(hb:fn.body=some c)
 (h:AWp P c (bodyQ P fn pars Post) (σ0 ins pars fn.ntmps)):Fun P f ins pars Post:=by
 intro w St φ F us hE
 have hs:=hE.sim fn.ntmps
 refine calls_of_wp hf hb (wp_mono (h _ _ _ ⟨φ,F,St,hs⟩) ?_)
 rintro e a' w' ⟨σ',hq,φ',F',St',hsim⟩
 have key:retQ P fn pars Post σ'→a'.defers=[]∧∃v,(results fn a'.tmps).run P w'=.ok v w'∧∃res rows u St'' F'' G,Post res rows∧Ending.returned v=.returned u∧Ext w w' St φ F pars res u rows St'' F'' G:=by
  rintro ⟨l,x,hp',rows,h1,h2,h3,h4,h5⟩
  obtain⟨vs,r1,r2⟩:=mi (P:=P) hsim _ _ h1
  obtain⟨v,r3,r4⟩:=nC r2
  obtain⟨G,c1,c2,c3,c4,c5,c6⟩:=yU hsim r4 h2
  refine⟨hsim.dfr,v,?_,x,rows,v,St',F',G,h5,rfl,?_⟩
  ·have:(fun|ResultVar.tmp t=>pure (a'.tmps.getD t undef)|ResultVar.cell a t=>(do loadVar t (←asAddr (a'.tmps.getD a undef)):Sem Value))=j7 a'.tmps:=by funext z;cases z<;>rfl
   have hres:results fn a'.tmps=(fn.results.mapM (j7 a'.tmps) >>= fun vs=>pure (if h:vs.size=1 then vs[0] else .tuple vs)):=by rw [←this];rfl
   simp [hres,Array.mapM_eq_mapM_toList,r1,←r3]
  ·have hrow:∀i cs,rows[i]? = some cs→i<pars.length:=fun i cs hi=>by have:=(List.getElem?_eq_some_iff.1 hi).1;omega
   have hpar:∀i,i<pars.length→∃cs r,rows[i]? = some cs∧hp' i=some r∧r.cs=cs:=fun i hi=>by
    have hi':i<rows.length:=by omega
    obtain⟨_,⟨r,h6,h7⟩,_⟩:=h4 i rows[i] (List.getElem?_eq_getElem hi')
    exact⟨_,r,List.getElem?_eq_getElem hi',h6,h7⟩
   have hloc:∀i,i<pars.length→∃b lo,φ i=.box b lo∧φ' i=.box b lo:=fun i hi=>by
    obtain⟨b,lo,vs,e,_⟩:=hE.row i pars[i] (List.getElem?_eq_getElem hi)
    have:=(c2.par i hi).1
    refine⟨b,lo,e,?_⟩
    rw [this];simp [rC,plOf,e]
   refine⟨c2.frm,c1,c3,h3,fun i cs hi=>?_,fun i hi=>?_,fun i hi b hb=>?_,fun i j hi hj hij b hb=>?_,fun i b lo hi e=>?_,fun b hb=>?_,fun b hb=>?_⟩
   ·obtain⟨h6,⟨r,h7,rfl⟩,h8⟩:=h4 i cs hi
    obtain⟨b,lo,e1,e2⟩:=hloc i (hrow i _ hi)
    have:=(c2.row i r h7).2
    rw [e2] at this
    obtain⟨_,us',g1,g2⟩:=this
    exact⟨b,lo,us',e1,g1.clo_ h6,g2,h8⟩
   ·obtain⟨cs,r,_,h7,_⟩:=hpar i hi;exact c2.nod i r h7
   ·obtain⟨cs,r,_,h7,_⟩:=hpar i hi;exact fun hG=>((c4 b hG).1.1 i r h7).1 hb
   ·obtain⟨_,r,_,h7,_⟩:=hpar i hi;obtain⟨_,s,_,h8,_⟩:=hpar j hj;exact c2.dis i j r s h7 h8 hij b hb
   ·obtain⟨_,r,_,h7,_⟩:=hpar i hi
    obtain⟨b',lo',e1,e2⟩:=hloc i hi
    rw [e] at e1
    injection e1 with e1 e1'
    subst e1 e1'
    refine⟨fun hG=>((c4 b hG).1.1 i r h7).2 lo e2,fun j hj=>?_⟩
    obtain⟨_,s,_,h8,_⟩:=hpar j hj
    exact c2.bxF i j r s b lo h7 h8 e2
   ·rcases hb with hb|⟨i,hi,hb⟩
    ·exact (c4 b hb).1.2.2
    ·obtain⟨_,r,_,h7,_⟩:=hpar i hi
     exact c2.own i r b h7 hb
   ·refine⟨fun hlt=>c2.stS b hb hlt,fun hG=>(c4 b hG).1.2.1 hb,fun i hi=>?_⟩
    obtain⟨_,r,_,h7,_⟩:=hpar i hi
    obtain⟨b',lo',e1,e2⟩:=hloc i hi
    refine⟨fun hF=>c2.stF i r b h7 hF hb,fun lo e=>?_⟩
    rw [e] at e1
    injection e1 with e1 e1'
    subst e1 e1'
    exact c2.stB i r b lo h7 e2 hb
 cases e<;>first|exact hq.elim|exact key hq
def idx (i:Nat):List Nat→Option Nat
 | []=>none
 | j :: r=>if j=i then some 0 else (idx i r).map (·+ 1)
theorem eY {i:Nat}:∀{D:List Nat} {d:Nat},idx i D=some d→D[d]? = some i
 | [],d,h=>by simp [idx] at h
 | j :: r,d,h=>by
  simp only [idx] at h
  split at h
  ·rename_i e;injection h with h;subst h e;rfl
  ·simp only [Option.map_eq_some_iff] at h
   obtain⟨d',h1,rfl⟩:=h
   simpa using eY h1
theorem qq {i:Nat}:∀{D:List Nat},idx i D=none→i∉D
 | [],_=>List.not_mem_nil
 | j :: r,h=>by
  simp only [idx] at h
  split at h
  ·cases h
  ·rename_i e
   simp only [Option.map_eq_none_iff] at h
   simp [qq h,Ne.symm e]
mutual
def snC:AC→List Nat
 | .sl i _=>[i]
 | .fn _ c=>snL c
 | _=>[]
def snL:List AC→List Nat
 | []=>[]
 | c :: r=>snC c++snL r
end
mutual
def cvC (hp:Nat→Option Row)(D:List Nat):AC→AC
 | .v x=>.v x
 | .ro n k l=>if bf l=true then .ro n k l else .un
 | .sl i n =>
  match hp i with
  | some r=>if r.box=false∧r.n=n∧bf r.cs=true then .ro n r.k (fJ r.cs) else .un
  | none=>.un
 | .pt i o =>
  match idx i D with
  | some d=>.pt d o
  | none=>.un
 | .rp l o=>if bf l=true then .rp l o else if (snL l).isEmpty=true then .rp (cvL hp D l) o else .un
 | .fn f c=>.fn f (cvL hp D c)
 | .ow ..=>.un
 | .bx ..=>.un
 | .un=>.un
 | .nn=>.nn
 | .mp _=>.un
def cvL (hp:Nat→Option Row)(D:List Nat):List AC→List AC
 | []=>[]
 | c :: r=>cvC hp D c :: cvL hp D r
end
def cvV (hp:Nat→Option Row)(D:List Nat):AV→AV
 | .c x=>.c (cvC hp D x)
 | .ag l=>.ag (cvL hp D l)
 | .tu _=>.c .un
def snV:AV→List Nat
 | .c x=>snC x
 | .ag l=>snL l
 | .tu _=>[]
def ij (hp:Nat→Option Row):List Nat→Option (List (List AC))
 | []=>some []
 | i :: D =>
  match hp i,ij hp D with
  | some r,some ps=>if (r.box=true∨0<r.n)∧bf r.cs=true∧i∉D then some (r.cs :: ps) else none
  | _,_=>none
theorem qr {hp:Nat→Option Row}:∀{D:List Nat} {ps:List (List AC)} {d i:Nat},ij hp D=some ps→D[d]? = some i →
 ∃r,hp i=some r∧(r.box=true∨0<r.n)∧bf r.cs=true∧ps[d]? = some r.cs
 | [],ps,d,i,_,h=>by simp at h
 | j :: D,ps,d,i,h,hd=>by
  simp only [ij] at h
  split at h
  ·rename_i r ps' hr hps
   split at h
   ·rename_i hc
    injection h with h
    subst h
    rcases d with _|d
    ·simp only [List.getElem?_cons_zero,Option.some.injEq] at hd
     subst hd
     exact⟨r,hr,hc.1,hc.2.1,rfl⟩
    ·obtain⟨r',h1,h2,h3,h4⟩:=qr hps (d:=d) (by simpa using hd)
     exact⟨r',h1,h2,h3,by simpa using h4⟩
   ·cases h
  ·cases h
theorem fL {hp:Nat→Option Row}:∀{D:List Nat} {ps:List (List AC)},ij hp D=some ps→ps.length=D.length
 | [],ps,h=>by simp only [ij,Option.some.injEq] at h;subst h;rfl
 | j :: D,ps,h=>by
  simp only [ij] at h
  split at h
  ·rename_i r ps' _ hps
   split at h
   ·injection h with h
    subst h
    simp [fL hps]
   ·cases h
  ·cases h
theorem gG {hp:Nat→Option Row}:∀{D:List Nat} {ps:List (List AC)},ij hp D=some ps→D.Nodup
 | [],ps,_=>List.nodup_nil
 | j :: D,ps,h=>by
  simp only [ij] at h
  split at h
  ·rename_i r ps' _ hps
   split at h
   ·rename_i hc;exact List.nodup_cons.2 ⟨hc.2.2,gG hps⟩
   ·cases h
  ·cases h
theorem ml:∀{D:List Nat},D.Nodup→∀{d e i:Nat},D[d]? = some i→D[e]? = some i→d=e
 | [],_,d,e,i,hd,_=>by simp at hd
 | x :: r,h,0,0,i,_,_=>rfl
 | x :: r,h,0,e+1,i,hd,he=>by
  simp only [List.getElem?_cons_zero,Option.some.injEq] at hd
  subst hd
  exact absurd (List.mem_of_getElem? (by simpa using he:r[e]? = some x)) (List.nodup_cons.1 h).1
 | x :: r,h,d+1,0,i,hd,he=>by
  simp only [List.getElem?_cons_zero,Option.some.injEq] at he
  subst he
  exact absurd (List.mem_of_getElem? (by simpa using hd:r[d]? = some x)) (List.nodup_cons.1 h).1
 | x :: r,h,d+1,e+1,i,hd,he=>by rw [ml (List.nodup_cons.1 h).2 (d:=d) (e:=e) (by simpa using hd) (by simpa using he)]
theorem LikeBut.same {R:Nat→Prop}{x y:Option Obj}(h:LikeBut R x y)(hR:∀o,¬R o):y=x:=by
 rcases h with rfl|⟨c,c',e,rfl,rfl,h1,h2⟩
 ·rfl
 ·have:c'=c:=by
   apply Array.ext_getElem?
   intro o;exact h2 o (hR o)
  rw [this]
theorem LikeBut.mono {R R':Nat→Prop}{x y:Option Obj}(h:LikeBut R x y)(hR:∀o,R o→R' o):LikeBut R' x y:=by
 rcases h with rfl|⟨c,c',e,h1,h2,h3,h4⟩
 ·exact .inl rfl
 ·exact .inr ⟨c,c',e,h1,h2,h3,fun o ho=>h4 o fun h=>ho (hR o h)⟩
def bxL:Lc→Lc
 | .box b lo=>.box b lo
 | .slc (.slice (some ad) _ _)=>.box ad.block 0
 | .slc _=>.box 0 0
def φC (φ:Nat→Lc)(D:List Nat)(d:Nat):Lc:=match D[d]? with|some i=>bxL (φ i)|none=>.box 0 0
def fsL (F:List Nat):Lc→List Nat
 | .box ..=>F
 | .slc _=>F.tail
def fC (φ:Nat→Lc)(F:Nat→List Nat)(D:List Nat)(d:Nat):List Nat:=match D[d]? with|some i=>fsL (F i) (φ i)|none=>[]
def stC (St:Nat→Prop)(σ:AS)(F:Nat→List Nat)(R:List Nat)(b:Nat):Prop:=St b∨∃z∈R,∃r,σ.hp z=some r∧b∈F z
section
variable {P:Program}{C:Ctx}{φ:Nat→Lc}{F:Nat→List Nat}{St:Nat→Prop}{σ:AS}{a:Act}{w:World}{D:List Nat}{pars:List (List AC)}
theorem cz (h:SimF C φ F St σ a w)(hl:ij σ.hp D=some pars){d i:Nat}(hd:D[d]? = some i) :
 ∃r b lo us,σ.hp i=some r∧bf r.cs=true∧pars[d]? = some r.cs∧φC φ D d=.box b lo∧CRL w St φ σ.Kn r.cs us (fC φ F D d)∧BoxAt w b lo us ∧
  ((r.box=true∧φ i=.box b lo∧fC φ F D d=F i)∨(r.box=false∧lo=0∧F i=b :: fC φ F D d∧∃c,φ i=.slc (.slice (some ⟨b,0,none⟩) r.n c)∧w.ownsRow 0 r.T r.k (.slice (some ⟨b,0,none⟩) r.n c) r.n us)):=by
 obtain⟨r,h1,h2,h3,h4⟩:=qr hl hd
 have hrow:=(h.row i r h1).2
 have e1:φC φ D d=bxL (φ i):=by simp [φC,hd]
 have e2:fC φ F D d=fsL (F i) (φ i):=by simp [fC,hd]
 cases e:φ i with
 | box b lo =>
  rw [e] at hrow e1 e2
  obtain⟨hb,us,g1,g2⟩:=hrow
  exact⟨r,b,lo,us,h1,h3,h4,e1,by rw [e2];exact g1,g2,.inl ⟨hb,rfl,e2⟩⟩
 | slc u =>
  rw [e] at hrow e1 e2
  obtain⟨hb,us,fs,g1,g2,g3⟩:=hrow
  have hn:0<r.n:=h2.resolve_left (by simp [hb])
  rcases id g2.2 with ⟨_,h0⟩|⟨g,cap,cur,rfl,_,hh,hnc,hcm,hs,ht⟩
  ·omega
  ·have e3:fC φ F D d=fs:=by rw [e2,g3];simp [fsL,obl,Value.ownBlock]
   refine⟨r,g,0,us,h1,h3,h4,e1,by rw [e3];exact g1,⟨cur,r.T,hh,fun j x hx=>?_⟩,.inr ⟨hb,rfl,by rw [e3,g3];simp [obl,Value.ownBlock],cap,rfl,g2⟩⟩
   rw [Nat.zero_add,←Array.getElem?_toList]
   rw [←ht,List.getElem?_take] at hx
   split at hx
   ·exact hx
   ·cases hx
theorem eZ (h:SimF C φ F St σ a w)(hl:ij σ.hp D=some pars){d i:Nat}(hd:D[d]? = some i){b:Nat}(hb:b∈fC φ F D d):b∈F i:=by
 obtain⟨r,g,lo,us,_,_,_,_,_,_,⟨_,_,e⟩|⟨_,_,e,_⟩⟩:=cz h hl hd
 ·rwa [e] at hb
 ·rw [e];exact List.mem_cons_of_mem _ hb
theorem j9 (hp:Nat→Option Row)(D:List Nat):∀l,cvL hp D l=l.map (cvC hp D)
 | []=>rfl
 | c :: r=>by rw [cvL,List.map_cons,j9 hp D r]
theorem cv_CR (h:SimF C φ F St σ a w)(hl:ij σ.hp D=some pars){R:List Nat}:∀(c:AC) (u:Value),(∀i∈snC c,i∈R)→CR w St φ σ.Kn c u []→CR w (stC St σ F R) (φC φ D) (fun i=>i<pars.length) (cvC σ.hp D c) u []:=by
 have hS:∀b,St b→stC St σ F R b:=fun b hb=>.inl hb
 have hmono:∀(c:AC) (u:Value) (fp:List Nat),CR w St φ σ.Kn c u fp→CR w (stC St σ F R) φ σ.Kn c u fp:=fun c u fp=>CR.mono (fun b hb _=>⟨hS b hb,rfl⟩) (Nat.le_refl _) (fun i hi=>⟨hi,rfl⟩) c u fp (fun _ _=>rfl)
 intro c
 induction c using AC.ind with
 | h1 x=>intro u _ hc;simp only [cvC,CR] at hc ⊢;exact hc
 | h2 n k l ih =>
  intro u _ hc
  simp only [cvC]
  split
  ·rename_i hcl;exact CR.clo_ (.ro n k l) u [] (by simpa [clo] using hcl) (hmono _ _ _ hc)
  ·simp [CR]
 | h3 T n k l ih=>intro u _ hc;simp [cvC,CR]
 | h4 i n =>
  intro u hsn hc
  simp only [cvC]
  split
  ·rename_i r hr
   split
   ·rename_i hcond
    obtain⟨hb,rfl,hcl⟩:=hcond
    simp only [CR] at hc
    obtain⟨_,_,e,A,c,rfl⟩:=hc
    have hrow:=(h.row i r hr).2
    rw [e] at hrow
    obtain⟨_,us,fs,g1,g2,g3⟩:=hrow
    have:=CR.toRo_ (φ':=φC φ D) (K':=fun i=>i<pars.length) hS (.ow r.T r.n r.k r.cs) _ (F i) (by simpa [clo] using hcl) (fun b hb=>.inr ⟨i,hsn i (by simp [snC]),r,hr,hb⟩) (by simp only [CR];exact⟨us,fs,g1,g2,g3⟩)
    simpa only [o4] using this
   ·simp [CR]
  ·simp [CR]
 | h5 i o =>
  intro u _ hc
  simp only [cvC]
  split
  ·rename_i d hd
   have hd':=eY hd
   have hdl:d<D.length:=(List.getElem?_eq_some_iff.1 hd').1
   have e1:φC φ D d=bxL (φ i):=by simp [φC,hd']
   simp only [CR] at hc ⊢
   obtain⟨_,_,⟨b,lo,e,rfl⟩|⟨b,n,c,e,rfl⟩⟩:=hc
   ·exact⟨trivial,by rw [fL hl];exact hdl,.inl ⟨b,lo,by rw [e1,e];rfl,rfl⟩⟩
   ·exact⟨trivial,by rw [fL hl];exact hdl,.inl ⟨b,0,by rw [e1,e];rfl,by rw [Nat.zero_add]⟩⟩
  ·simp [CR]
 | h6 l o ih =>
  intro u hs0 hc
  simp only [cvC]
  split
  ·rename_i hcl;exact CR.clo_ (.rp l o) u [] (by simpa [clo] using hcl) (hmono _ _ _ hc)
  ·rename_i hncl
   split
   ·rename_i hsn0
    have hsn':∀i∈snL l,i∈R:=fun i hi=>by rw [List.isEmpty_iff.1 hsn0] at hi;cases hi
    simp only [CR] at hc ⊢
    obtain⟨h0,b,p,us,e,g1,g2,g3,h1⟩:=hc
    refine⟨h0,b,p,us,e,hS b g1,g2,g3,?_⟩
    clear e h0 g3 hsn0 hncl hs0 g1 g2
    induction l generalizing us with
    | nil=>simp only [CRL] at h1;rw [h1.1];exact CRL.nil
    | cons x r ihr =>
     simp only [CRL] at h1
     obtain⟨v,vs,f1,f2,rfl,e,g3,g4⟩:=h1
     have e':=List.append_eq_nil_iff.1 e.symm
     rw [e'.1] at g3
     rw [e'.2] at g4
     simp only [cvL]
     exact CRL.cons (f:=[]) (f':=[]) (ih x List.mem_cons_self v (fun i hi=>hsn' i (by simp [snL,hi])) g3) (ihr (fun e he=>ih e (List.mem_cons_of_mem _ he)) (fun i hi=>hsn' i (by simp [snL,hi])) vs g4)
   ·simp [CR]
 | h7 f c ih =>
  intro u hsn hc
  simp only [cvC,CR] at hc ⊢
  obtain⟨h0,us,e,h1⟩:=hc
  refine⟨h0,us,e,?_⟩
  clear e h0
  have hsn':∀i∈snL c,i∈R:=fun i hi=>hsn i (by simpa [snC] using hi)
  clear hsn
  induction c generalizing us with
  | nil=>simp only [CRL] at h1;rw [h1.1];exact CRL.nil
  | cons x r ihr =>
   simp only [CRL] at h1
   obtain⟨v,vs,f1,f2,rfl,e,g1,g2⟩:=h1
   have e':=List.append_eq_nil_iff.1 e.symm
   rw [e'.1] at g1
   rw [e'.2] at g2
   simp only [cvL]
   exact CRL.cons (f:=[]) (f':=[]) (ih x List.mem_cons_self v (fun i hi=>hsn' i (by simp [snL,hi])) g1) (ihr (fun e he=>ih e (List.mem_cons_of_mem _ he)) vs g2 (fun i hi=>hsn' i (by simp [snL,hi])))
 | h9 T l ih=>intro u _ hc;simp [cvC,CR]
 | h8=>intro u _ hc;simp [cvC,CR]
 | hn=>intro u _ hc;simp only [cvC,CR] at hc ⊢;exact hc
 | hm l=>intro u _ hc;simp [cvC,CR]
theorem yV (h:SimF C φ F St σ a w)(hl:ij σ.hp D=some pars){R:List Nat}:∀(l:List AC) (us:List Value),(∀i∈snL l,i∈R)→CRL w St φ σ.Kn l us []→CRL w (stC St σ F R) (φC φ D) (fun i=>i<pars.length) (cvL σ.hp D l) us []
 | [],us,_,h1=>by simp only [CRL] at h1;rw [h1.1];simp only [cvL];exact CRL.nil
 | x :: r,us,hsn,h1=>by
  simp only [CRL] at h1
  obtain⟨v,vs,f1,f2,rfl,e,g1,g2⟩:=h1
  have e':=List.append_eq_nil_iff.1 e.symm
  rw [e'.1] at g1
  rw [e'.2] at g2
  simp only [cvL]
  exact CRL.cons (f:=[]) (f':=[]) (cv_CR h hl x v (fun i hi=>hsn i (by simp [snL,hi])) g1) (yV h hl r vs (fun i hi=>hsn i (by simp [snL,hi])) g2)
theorem cv_VR (h:SimF C φ F St σ a w)(hl:ij σ.hp D=some pars){R:List Nat}(x:AV)(u:Value)(hsn:∀i∈snV x,i∈R)(hx:VR w St φ σ.Kn x u):VR w (stC St σ F R) (φC φ D) (fun i=>i<pars.length) (cvV σ.hp D x) u:=by
 cases x with
 | c x=>simp only [cvV,VR] at hx ⊢;exact cv_CR h hl x u hsn hx
 | ag l=>simp only [cvV,VR] at hx ⊢;obtain⟨us,e,hx⟩:=hx;exact⟨us,e,yV h hl l us hsn hx⟩
 | tu l=>simp [cvV,VR,CR]
theorem yW (h:SimF C φ F St σ a w)(hl:ij σ.hp D=some pars){R:List Nat}:∀(l:List AV) (us:List Value),(∀x∈l,∀i∈snV x,i∈R)→VRL w St φ σ.Kn l us→VRL w (stC St σ F R) (φC φ D) (fun i=>i<pars.length) (l.map (cvV σ.hp D)) us
 | [],us,_,h1=>by simp only [VRL] at h1;subst h1;simp [VRL]
 | x :: r,us,hsn,h1=>by
  simp only [VRL] at h1
  obtain⟨u,us',rfl,g1,g2⟩:=h1
  simp only [List.map_cons,VRL]
  exact⟨u,us',rfl,cv_VR h hl x u (hsn x List.mem_cons_self) g1,yW h hl r us' (fun y hy=>hsn y (List.mem_cons_of_mem _ hy)) g2⟩
theorem SimF.gl (h:SimF C φ F St σ a w):GlobOk w:=h.gnN.2.1.keep fun b hb=>(h.frm.blk b (Gl.lt h.gnN.2.1 hb) (h.gnN.2.2 b hb).1).same (h.gnN.2.2 b hb).2
theorem SimF.gl_lent (h:SimF C φ F St σ a w)(hl:ij σ.hp D=some pars):GlobOk w∧∀b,isG b→¬jA (fC φ F D) pars.length b∧∀o,¬o5 (φC φ D) pars b o:=by
 have hn:=fL hl
 have get:∀d,d<pars.length→∃i,D[d]? = some i:=fun d hd=>⟨_,List.getElem?_eq_getElem omq⟩
 have hown:∀i r b,σ.hp i=some r→b∈F i→¬isG b:=fun i r b hr hb hg=>(h.own i r b hr hb).elim (h.gnN.2.2 b hg).1 fun h1=>by have:=Gl.lt h.gnN.2.1 hg;omega
 refine⟨h.gl,fun b hg=>⟨?_,fun o=>?_⟩⟩
 ·rintro ⟨d,hd,hb⟩
  obtain⟨i,hi⟩:=get d hd
  obtain⟨r,_,_,_,h1,_⟩:=cz h hl hi
  exact hown i r b h1 (eZ h hl hi hb) hg
 ·rintro ⟨d,lo,cs,hd,hφ,ho1,ho2⟩
  obtain⟨i,hi⟩:=get d (List.getElem?_eq_some_iff.1 hd).1
  obtain⟨r,b',lo',vs,h1,_,h3,h4,h5,h6,hh⟩:=cz h hl hi
  rw [h3] at hd;injection hd with hd;subst hd
  rw [hφ] at h4;injection h4 with h4 h4';subst h4 h4'
  rcases hh with ⟨_,e,_⟩|⟨_,_,e,_⟩
  ·rcases Nat.lt_or_ge i C.N with hN|hN
   ·obtain⟨p1,p2⟩:=h.par i hN
    rw [e] at p1;injection p1 with p1 p1'
    have:=p2 r h1 (o-lo) omq
    rw [←p1,←p1',show lo+(o-lo)=o by omega] at this
    exact (h.gnN.2.2 b hg).2 o this
   ·have:=h.new i r b lo h1 e hN
    have:=Gl.lt h.gnN.2.1 hg
    omega
  ·exact hown i r b h1 (by rw [e];exact List.mem_cons_self) hg
theorem SimF.ent (h:SimF C φ F St σ a w)(hl:ij σ.hp D=some pars){R:List Nat}(hRD:∀z∈R,z∉D){ins:List AV}{us:List Value}(hi:VRL w St φ σ.Kn ins us)(hsn:∀x∈ins,∀i∈snV x,i∈R) :
 Ent w (stC St σ F R) (φC φ D) (fC φ F D) (ins.map (cvV σ.hp D)) us pars:=by
 have hn:=fL hl
 have hD:=gG hl
 have get:∀d,d<pars.length→∃i,D[d]? = some i:=fun d hd=>⟨_,List.getElem?_eq_getElem omq⟩
 have hmono:∀b,St b→stC St σ F R b:=fun b hb=>.inl hb
 have ne:∀{d e i j:Nat},D[d]? = some i→D[e]? = some j→d≠e→i≠j:=fun hd he hne hij=>hne (by subst hij;exact ml hD hd he)
 refine⟨yW h hl ins us hsn hi,fun d cs hd=>?_,fun d hd=>?_,fun d e hd he hde b hb=>?_,fun d e b lo hd he hb=>?_,fun d e b lo lo' ci cj hd he hde e1 e2=>?_,fun d b hd hb=>?_,fun d b lo hd hb=>?_,h.gl_lent hl⟩
 ·obtain⟨i,hi'⟩:=get d (List.getElem?_eq_some_iff.1 hd).1
  obtain⟨r,b,lo,vs,_,h2,h3,h4,h5,h6,_⟩:=cz h hl hi'
  rw [h3] at hd
  injection hd with hd
  subst hd
  exact⟨b,lo,vs,h4,CRL.clo_ h2 (h5.mono (fun b hb _=>⟨hmono b hb,rfl⟩) (Nat.le_refl _) (fun i hi=>⟨hi,rfl⟩) (fun _ _=>rfl)),h6⟩
 ·obtain⟨i,hi'⟩:=get d hd
  obtain⟨r,b,lo,vs,h1,_,_,_,_,_,⟨_,_,e⟩|⟨_,_,e,_⟩⟩:=cz h hl hi'
  ·rw [e];exact h.nod i r h1
  ·have:=h.nod i r h1;rw [e] at this;exact (List.nodup_cons.1 this).2
 ·obtain⟨i,hi'⟩:=get d hd
  obtain⟨j,hj'⟩:=get e he
  obtain⟨r,_,_,_,h1,_⟩:=cz h hl hi'
  obtain⟨s,_,_,_,h2,_⟩:=cz h hl hj'
  exact fun hb'=>h.dis i j r s h1 h2 (ne hi' hj' hde) b (eZ h hl hi' hb) (eZ h hl hj' hb')
 ·obtain⟨i,hi'⟩:=get d hd
  obtain⟨j,hj'⟩:=get e he
  obtain⟨r,g,lo2,vs,h1,_,_,h4,_,_,hh⟩:=cz h hl hi'
  obtain⟨s,_,_,_,h2,_⟩:=cz h hl hj'
  rw [hb] at h4
  injection h4 with h4 h4'
  subst h4 h4'
  intro hb'
  rcases hh with ⟨_,e1,_⟩|⟨_,_,e1,_⟩
  ·exact h.bxF i j r s b lo h1 h2 e1 (eZ h hl hj' hb')
  ·by_cases hde:d=e
   ·subst hde
    have:=h.nod i r h1;rw [e1] at this
    exact (List.nodup_cons.1 this).1 hb'
   ·exact h.dis i j r s h1 h2 (ne hi' hj' hde) b (by rw [e1];exact List.mem_cons_self) (eZ h hl hj' hb')
 ·obtain⟨i,hi'⟩:=get d (List.getElem?_eq_some_iff.1 hd).1
  obtain⟨j,hj'⟩:=get e (List.getElem?_eq_some_iff.1 he).1
  obtain⟨r,g,lo2,vs,h1,_,h3,h4,_,_,hh⟩:=cz h hl hi'
  obtain⟨s,g2,lo3,vs2,h1',_,h3',h4',_,_,hh'⟩:=cz h hl hj'
  rw [h3] at hd;injection hd with hd;subst hd
  rw [h3'] at he;injection he with he;subst he
  rw [e1] at h4;injection h4 with h4 h5;subst h4 h5
  rw [e2] at h4';injection h4' with h4' h5';subst h4' h5'
  have hij:=ne hi' hj' hde
  rcases hh with ⟨_,q1,_⟩|⟨_,_,q1,_⟩<;>rcases hh' with ⟨_,q2,_⟩|⟨_,_,q2,_⟩
  ·exact h.bxd i j r s b lo lo' h1 h1' hij q1 q2
  ·exact absurd (by rw [q2];exact List.mem_cons_self) (h.bxF i j r s b lo h1 h1' q1)
  ·exact absurd (by rw [q1];exact List.mem_cons_self) (h.bxF j i s r b lo' h1' h1 q2)
  ·exact absurd (by rw [q2];exact List.mem_cons_self) (h.dis i j r s h1 h1' hij b (by rw [q1];exact List.mem_cons_self))
 ·obtain⟨i,hi'⟩:=get d hd
  obtain⟨r,_,_,_,h1,_⟩:=cz h hl hi'
  have hbF:=eZ h hl hi' hb
  rintro (hs|⟨z,hz,s,hzs,hbz⟩)
  ·exact h.stF i r b h1 hbF hs
  ·exact h.dis i z r s h1 hzs (by rintro rfl;exact hRD i hz (List.mem_of_getElem? hi')) b hbF hbz
 ·obtain⟨i,hi'⟩:=get d hd
  obtain⟨r,g,lo2,vs,h1,_,_,h4,_,_,hh⟩:=cz h hl hi'
  rw [hb] at h4
  injection h4 with h4 h4'
  subst h4 h4'
  have hiz:∀z∈R,i≠z:=fun z hz e=>hRD z hz (e▸List.mem_of_getElem? hi')
  rcases hh with ⟨_,e1,_⟩|⟨_,_,e1,_⟩
  ·rintro (hs|⟨z,hz,s,hzs,hbz⟩)
   ·exact h.stB i r b lo h1 e1 hs
   ·exact h.bxF i z r s b lo h1 hzs e1 hbz
  ·have hbi:b∈F i:=by rw [e1];exact List.mem_cons_self
   rintro (hs|⟨z,hz,s,hzs,hbz⟩)
   ·exact h.stF i r b h1 hbi hs
   ·exact h.dis i z r s h1 hzs (hiz z hz) b hbi hbz
end
mutual
def dS:AV→Bool
 | .c x=>j6 x
 | .ag l=>dm l
 | .tu l=>eM l
def eM:List AV→Bool
 | []=>true
 | c :: r=>dS c&&eM r
end
section
variable {w:World}{St St':Nat→Prop}{φ:Nat→Lc}{K:Nat→Prop}
mutual
theorem VRF.rofr_:∀{x:AV} {u:Value} {fp:List Nat},dS x=true→VRF w St φ K x u fp→VRF w St' φ K x u fp
 | .c x,u,fp,h,h1=>by simp only [VRF,dS] at h h1 ⊢;exact CR.rofr_ x u fp h h1
 | .ag l,u,fp,h,h1=>by simp only [VRF,dS] at h h1 ⊢;obtain⟨us,e,h1⟩:=h1;exact⟨us,e,h1.rofr_ h⟩
 | .tu l,u,fp,h,h1=>by simp only [VRF,dS] at h h1 ⊢;obtain⟨us,e,h1⟩:=h1;exact⟨us,e,VRFL.rofr_ h h1⟩
theorem VRFL.rofr_:∀{l:List AV} {us:List Value} {fp:List Nat},eM l=true→VRFL w St φ K l us fp→VRFL w St' φ K l us fp
 | [],us,fp,_,h1=>by simp only [VRFL] at h1 ⊢;exact h1
 | c :: r,us,fp,h,h1=>by
  simp only [VRFL,eM,Bool.and_eq_true] at h h1 ⊢
  obtain⟨u,us',f,f',e1,e2,h2,h3⟩:=h1
  exact⟨u,us',f,f',e1,e2,VRF.rofr_ h.1 h2,VRFL.rofr_ h.2 h3⟩
end
theorem CR.sub_ (hS:∀b,St b→St' b)(c:AC)(u:Value)(fp:List Nat)(h:CR w St φ K c u fp):CR w St' φ K c u fp:=CR.mono (fun b hb _=>⟨hS b hb,rfl⟩) (Nat.le_refl _) (fun _ hi=>⟨hi,rfl⟩) c u fp (fun _ _=>rfl) h
theorem CRL.sub_ (hS:∀b,St b→St' b){c:List AC}{u:List Value}{fp:List Nat}(h:CRL w St φ K c u fp):CRL w St' φ K c u fp:=h.mono (fun b hb _=>⟨hS b hb,rfl⟩) (Nat.le_refl _) (fun _ hi=>⟨hi,rfl⟩) (fun _ _=>rfl)
mutual
theorem VRF.sub_ (hS:∀b,St b→St' b):∀{x:AV} {u:Value} {fp:List Nat},VRF w St φ K x u fp→VRF w St' φ K x u fp
 | .c x,u,fp,h1=>by simp only [VRF] at h1 ⊢;exact CR.sub_ hS x u fp h1
 | .ag l,u,fp,h1=>by simp only [VRF] at h1 ⊢;obtain⟨us,e,h1⟩:=h1;exact⟨us,e,CRL.sub_ hS h1⟩
 | .tu l,u,fp,h1=>by simp only [VRF] at h1 ⊢;obtain⟨us,e,h1⟩:=h1;exact⟨us,e,VRFL.sub_ hS h1⟩
theorem VRFL.sub_ (hS:∀b,St b→St' b):∀{l:List AV} {us:List Value} {fp:List Nat},VRFL w St φ K l us fp→VRFL w St' φ K l us fp
 | [],us,fp,h1=>by simp only [VRFL] at h1 ⊢;exact h1
 | c :: r,us,fp,h1=>by
  simp only [VRFL] at h1 ⊢
  obtain⟨u,us',f,f',e1,e2,h2,h3⟩:=h1
  exact⟨u,us',f,f',e1,e2,VRF.sub_ hS h2,VRFL.sub_ hS h3⟩
end
end
def fBk (φ:Nat→Lc)(F F':Nat→List Nat)(D:List Nat)(i:Nat):List Nat :=
 match idx i D with
 | some d=>(match φ i with | .box ..=>F' d | .slc u=>obl u++F' d)
 | none=>F i
section
variable {P:Program}{C:Ctx}{φ:Nat→Lc}{F:Nat→List Nat}{St:Nat→Prop}{σ:AS}{a:Act}{w w':World}{D:List Nat}{pars:List (List AC)}
theorem tw {T:TypeId}{k n b c:Nat}{us vs:List Value}{R:Nat→Prop}(h:w.ownsRow 0 T k (.slice (some ⟨b,0,none⟩) n c) n us)(hl:LikeBut R w.heap[b]? w'.heap[b]?)(hb:BoxAt w' b 0 vs)(hlen:vs.length=us.length):w'.ownsRow 0 T k (.slice (some ⟨b,0,none⟩) n c) n vs:=by
 obtain⟨hlu,⟨hv,_⟩|⟨g,cap,cur,hv,hz,hh,hn,hc,hs,ht⟩⟩:=h
 ·cases hv
 ·injection hv with hv1 hv2 hv3
  injection hv1 with hv1
  injection hv1 with hv1
  subst hv1 hv3
  obtain⟨cur',h1,h2⟩:∃cur':Array Value,w'.heap[b]? = some (.cells cur' T (0,0))∧cur'.size=cur.size:=by
   rcases hl with e|⟨x,y,e,g1,g2,g3,_⟩
   ·exact⟨cur,e.trans hh,rfl⟩
   ·rw [hh] at g1
    injection g1 with g1
    injection g1 with g1 g1'
    subst g1 g1'
    exact⟨y,g2,g3⟩
  obtain⟨cs2,T2,h3,h4⟩:=hb
  rw [h1] at h3
  injection h3 with h3
  injection h3 with h3 h3'
  subst h3 h3'
  refine⟨by rw [hlen,hlu],.inr ⟨b,c,cur',rfl,hz,h1,hn,hc,by rw [h2,hs],?_⟩⟩
  have hle:n*k≤c*k:=Nat.mul_le_mul_right k hn
  apply List.ext_getElem?
  intro j
  rw [List.getElem?_take]
  by_cases hj:j<n*k
  ·rw [if_pos hj]
   have hj':j<vs.length:=by rw [hlen,hlu];exact hj
   have:=h4 j vs[j] (List.getElem?_eq_getElem hj')
   rw [Nat.zero_add,←Array.getElem?_toList] at this
   rw [this,List.getElem?_eq_getElem hj']
  ·rw [if_neg hj,List.getElem?_eq_none (by rw [hlen,hlu];omega)]
theorem SimF.back (h:SimF C φ F St σ a w)(hl:ij σ.hp D=some pars){R:List Nat}{res:AV}{u:Value}{rows:List (List AC)}{St':Nat→Prop}{F':Nat→List Nat}{G:List Nat}
 (hx:Ext w w' (stC St σ F R) (φC φ D) (fC φ F D) pars res u rows St' F' G) {hp3:Nat→Option Row}
 (hhp:∀i s,hp3 i=some s→(∃d r c,idx i D=some d∧σ.hp i=some r∧rows[d]? = some c∧s={ r with cs:=c })∨(idx i D=none∧σ.hp i=some s))
 (hm:(dS res=true∧∀c∈rows,dm c=true)∨∀i∈R,hp3 i=none) :
 ∃St3,SimF C φ (fBk φ F F' D) St3 { σ with hp:=hp3 } a w'∧VRF w' St3 φ0 K0 res u G∧∀b∈G,Free C φ (fBk φ F F' D) St3 { σ with hp:=hp3 } b:=by
 have hn:=fL hl
 have hD:=gG hl
 have get:∀d,d<pars.length→∃i,D[d]? = some i:=fun d hd=>⟨_,List.getElem?_eq_getElem omq⟩
 have ne:∀{d e i j:Nat},D[d]? = some i→D[e]? = some j→d≠e→i≠j:=fun hd he hne hij=>hne (by subst hij;exact ml hD hd he)
 have dlt:∀{d i:Nat},D[d]? = some i→d<pars.length:=fun hd=>by rw [hn];exact (List.getElem?_eq_some_iff.1 hd).1
 have nl:∀{b:Nat},jA (fC φ F D) pars.length b→∃i r,i∈D∧σ.hp i=some r∧b∈F i:=by
  rintro b ⟨d,hd,hb⟩
  obtain⟨i,hi⟩:=get d hd
  obtain⟨r,_,_,_,h1,_⟩:=cz h hl hi
  exact⟨i,r,List.mem_of_getElem? hi,h1,eZ h hl hi hb⟩
 have nr:∀{b o:Nat},o5 (φC φ D) pars b o→(∃i r lo,i∈D∧σ.hp i=some r∧φ i=.box b lo∧lo≤o∧o<lo+r.cs.length)∨(∃i r,i∈D∧σ.hp i=some r∧b∈F i):=by
  rintro b o ⟨d,lo,cs,h1,h2,h3,h4⟩
  obtain⟨i,hi⟩:=get d (List.getElem?_eq_some_iff.1 h1).1
  obtain⟨r,g,lo2,vs,g1,_,g3,g4,_,_,hh⟩:=cz h hl hi
  rw [h2] at g4;injection g4 with g4 g5;subst g4 g5
  rw [h1] at g3;injection g3 with g3;subst g3
  rcases hh with ⟨_,e,_⟩|⟨_,_,e,_⟩
  ·exact .inl ⟨i,r,lo,List.mem_of_getElem? hi,g1,e,h3,h4⟩
  ·exact .inr ⟨i,r,List.mem_of_getElem? hi,g1,by rw [e];exact List.mem_cons_self⟩
 have hsz:=hx.frm.size
 have keep:∀b,b<w.heap.size→(∀i r,σ.hp i=some r→i∈D→b∉F i∧∀lo,φ i≠.box b lo)→w'.heap[b]? = w.heap[b]? := fun b hb hh=>by
  refine (hx.frm.blk b hb fun hM=>?_).same fun o hR=>?_
  ·obtain⟨i,r,h1,h2,h3⟩:=nl hM
   exact (hh i r h2 h1).1 h3
  ·rcases nr hR with ⟨i,r,lo,h1,h2,h3,_⟩|⟨i,r,h1,h2,h3⟩
   ·exact (hh i r h2 h1).2 lo h3
   ·exact (hh i r h2 h1).1 h3
 have stK:∀b,St b→b<w.heap.size→w'.heap[b]? = w.heap[b]? := fun b hb hlt=>keep b hlt fun i r hr _=>⟨fun hf=>h.stF i r b hr hf hb,fun lo e=>h.stB i r b lo hr e hb⟩
 have fK:∀j s b,σ.hp j=some s→j∉D→b∈F j→w'.heap[b]? = w.heap[b]? := fun j s b hj hjD hb=>keep b ((h.row j s hj).2.lt b hb) fun i r hr hi =>
  have hij:i≠j:=fun e=>hjD (e▸hi)
  ⟨fun hf=>h.dis i j r s hr hj hij b hf hb,fun lo e=>h.bxF i j r s b lo hr hj e hb⟩
 have bxlt:∀j s b lo,σ.hp j=some s→φ j=.box b lo→b<w.heap.size:=fun j s b lo hj e=>by
  have h1:=(h.row j s hj).2
  rw [e] at h1
  obtain⟨_,us,_,h2⟩:=h1
  exact h2.lt
 have Flt:∀j s b,σ.hp j=some s→b∈F j→b<w.heap.size:=fun j s b hj hb=>(h.row j s hj).2.lt b hb
 have own':∀b,(jA (fC φ F D) pars.length b∨w.heap.size≤b)→C.M b∨C.w0.heap.size≤b:=fun b hb=>by
  rcases hb with hM|hb
  ·obtain⟨i,r,_,h2,h3⟩:=nl hM;exact h.own i r b h2 h3
  ·exact .inr (Nat.le_trans h.frm.size hb)
 -- what a row of after is
 have row3:∀i s,hp3 i=some s→(∃d r c b lo,idx i D=some d∧D[d]? = some i∧i∈D∧d<pars.length∧σ.hp i=some r∧rows[d]? = some c∧s={ r with cs:=c }∧c.length=r.cs.length∧φC φ D d=.box b lo ∧
  ((φ i=.box b lo∧fBk φ F F' D i=F' d)∨(∃n cc,φ i=.slc (.slice (some ⟨b,0,none⟩) n cc)∧fBk φ F F' D i=b :: F' d∧b∈F i)))∨(i∉D∧σ.hp i=some s∧fBk φ F F' D i=F i):=by
  intro i s hs
  rcases hhp i s hs with ⟨d,r,c,h1,h2,h3,h4⟩|⟨h1,h2⟩
  ·have hd:=eY h1
   obtain⟨r',b,lo,us,g1,_,g3,g4,_,_,hh⟩:=cz h hl hd
   rw [h2] at g1;injection g1 with g1;subst g1
   obtain⟨_,_,_,_,_,_,cs0,q1,q2⟩:=hx.row d c h3
   rw [g3] at q1;injection q1 with q1;subst q1
   refine .inl ⟨d,r,c,b,lo,h1,hd,List.mem_of_getElem? hd,dlt hd,h2,h3,h4,q2,g4,?_⟩
   rcases hh with ⟨_,e,_⟩|⟨_,_,e',cc,e,_⟩
   ·exact .inl ⟨e,by simp [fBk,h1,e]⟩
   ·exact .inr ⟨r.n,cc,e,by simp [fBk,h1,e,obl,Value.ownBlock],by rw [e'];exact List.mem_cons_self⟩
  ·exact .inr ⟨qq h1,h2,by simp [fBk,h1]⟩
 have key:∀St3:Nat→Prop,(∀b,St b→b<w.heap.size→St3 b)→(∀i s b,hp3 i=some s→b∈fBk φ F F' D i→¬St3 b)→(∀i s b lo,hp3 i=some s→φ i=.box b lo→¬St3 b)→(∀b∈G,¬St3 b) →
  (∀b,St3 b→b<C.w0.heap.size→C.S0 b∨C.M b)→(∀d c vs,rows[d]? = some c→CRL w' St' φ0 K0 c vs (F' d)→CRL w' St3 φ0 K0 c vs (F' d))→VRF w' St3 φ0 K0 res u G →
  ∃St3,SimF C φ (fBk φ F F' D) St3 { σ with hp:=hp3 } a w'∧VRF w' St3 φ0 K0 res u G∧∀b∈G,Free C φ (fBk φ F F' D) St3 { σ with hp:=hp3 } b:=by
  intro St3 s1 s2 s3 s4 s5 s6 s7
  have hS:∀b,St b→b<w.heap.size→St3 b∧w'.heap[b]? = w.heap[b]? := fun b hb hlt=>⟨s1 b hb hlt,stK b hb hlt⟩
  have hK:∀i,σ.Kn i→σ.Kn i∧φ i=φ i:=fun i hi=>⟨hi,rfl⟩
  have bxk:∀i s b lo,hp3 i=some s→φ i=.box b lo→b∉G∧∀j t,hp3 j=some t→b∉fBk φ F F' D j:=by
   intro i s b lo hs e
   rcases row3 i s hs with ⟨d,r,c,b',lo',_,hd,hiD,hdl,hr,_,_,_,hφ,hh⟩|⟨hiD,hr,_⟩
   ·obtain⟨rfl,rfl⟩:b'=b∧lo'=lo:=by
     rcases hh with ⟨e',_⟩|⟨n,cc,e',_⟩
     ·rw [e] at e';injection e' with e1 e2;exact⟨e1.symm,e2.symm⟩
     ·rw [e] at e';cases e'
    have hb:=hx.bxF d b' lo' hdl hφ
    refine⟨hb.1,fun j t ht=>?_⟩
    rcases row3 j t ht with ⟨d2,r2,c2,b2,lo2,_,hd2,hjD,hdl2,hr2,_,_,_,hφ2,hh2⟩|⟨hjD,hr2,ef⟩
    ·rcases hh2 with ⟨_,ef⟩|⟨n,cc,_,ef,hb2⟩
     ·rw [ef];exact hb.2 d2 hdl2
     ·rw [ef]
      intro hm
      rcases List.mem_cons.1 hm with rfl|hm
      ·exact h.bxF i j r r2 b' lo' hr hr2 e hb2
      ·exact hb.2 d2 hdl2 hm
    ·rw [ef];exact h.bxF i j r t b' lo' hr hr2 e
   ·have hlt:=bxlt i s b lo hr e
    have hnM:¬jA (fC φ F D) pars.length b:=fun hM=>by obtain⟨i',r',_,h2,h3⟩:=nl hM;exact h.bxF i i' s r' b lo hr h2 e h3
    refine⟨fun hG=>(hx.own b (.inl hG)).elim hnM omq,fun j t ht=>?_⟩
    rcases row3 j t ht with ⟨d2,r2,c2,b2,lo2,_,hd2,hjD,hdl2,hr2,_,_,_,hφ2,hh2⟩|⟨hjD,hr2,ef⟩
    ·have hF:b∉F' d2:=fun hb=>(hx.own b (.inr ⟨d2,hdl2,hb⟩)).elim hnM omq
     rcases hh2 with ⟨_,ef⟩|⟨n,cc,_,ef,hb2⟩
     ·rw [ef];exact hF
     ·rw [ef]
      intro hm
      rcases List.mem_cons.1 hm with rfl|hm
      ·exact h.bxF i j s r2 b lo hr hr2 e hb2
      ·exact hF hm
    ·rw [ef];exact h.bxF i j s t b lo hr hr2 e
  have Gk:∀i s b,hp3 i=some s→b∈fBk φ F F' D i→b∉G:=by
   intro i s b hs hb hG
   rcases row3 i s hs with ⟨d,r,c,b',lo',_,hd,hiD,hdl,hr,_,_,_,hφ,hh⟩|⟨hiD,hr,ef⟩
   ·rcases hh with ⟨_,ef⟩|⟨n,cc,_,ef,hb2⟩
    ·rw [ef] at hb;exact hx.disG d hdl b hb hG
    ·rw [ef] at hb
     rcases List.mem_cons.1 hb with rfl|hb
     ·exact (hx.bxF d b lo' hdl hφ).1 hG
     ·exact hx.disG d hdl b hb hG
   ·rw [ef] at hb
    have hlt:=Flt i s b hr hb
    refine (hx.own b (.inl hG)).elim (fun hM=>?_) omq
    obtain⟨i',r',h1,h2,h3⟩:=nl hM
    exact h.dis i' i r' s h2 hr (fun e=>hiD (e▸h1)) b h3 hb
  refine⟨St3,⟨h.dfr,h.len,fun t=>VR.mono hS hsz hK _ _ (h.tms t),fun i s hs=>?_,fun i s hs=>?_,fun i j s t hs ht hij b hb=>?_,fun i j s t b lo hs ht e=>(bxk i s b lo hs e).2 j t ht,fun i j s t b lo lo' hs ht hij e e'=>?_,s2,s3,?_,fun i s b hs hb=>?_,fun i hi=>⟨(h.par i hi).1,fun s hs j hj=>?_⟩,fun i s b lo hs e hN=>?_,h.gnN,s5⟩,s7,fun b hb=>⟨fun j s hj=>⟨fun hf=>Gk j s b hj hf hb,fun lo e=>(bxk j s b lo hj e).1 hb⟩,s4 b hb,own' b (hx.own b (.inl hb))⟩⟩
  ·-- row
   rcases row3 i s hs with ⟨d,r,c,b,lo,hidx,hd,hiD,hdl,hr,hc,rfl,hlen,hφ,hh⟩|⟨hiD,hr,ef⟩
   ·refine⟨(h.row i r hr).1,?_⟩
    obtain⟨b1,lo1,vs,q1,q2,q3,_⟩:=hx.row d c hc
    rw [hφ] at q1;injection q1 with q1 q1';subst q1 q1'
    have q4:CRL w' St3 φ σ.Kn c vs (F' d):=(s6 d c vs hc q2).mono (fun b hb _=>⟨hb,rfl⟩) (Nat.le_refl _) (fun i hi=>hi.elim) (fun _ _=>rfl)
    have hrow:=(h.row i r hr).2
    rcases hh with ⟨e,ef⟩|⟨n,cc,e,ef,hbF⟩
    ·rw [e] at hrow ⊢
     rw [ef]
     exact⟨hrow.1,vs,q4,q3⟩
    ·obtain⟨r',b',lo',us,g1,_,g3,g4,g5,g6,hh⟩:=cz h hl hd
     rw [hr] at g1;injection g1 with g1;subst g1
     rw [hφ] at g4;injection g4 with g4 g4';subst g4 g4'
     rcases hh with ⟨_,e',_⟩|⟨hb,hlo,eF,cc',e',hown⟩
     ·rw [e] at e';cases e'
     ·subst hlo
      rw [ef,e']
      have hlt:=Flt i r b hr hbF
      have hnM:¬jA (fC φ F D) pars.length b:=by
       rintro ⟨d2,hd2,hb2⟩
       obtain⟨i2,hi2⟩:=get d2 hd2
       by_cases hde:d2=d
       ·subst hde
        have:=h.nod i r hr;rw [eF] at this
        exact (List.nodup_cons.1 this).1 hb2
       ·obtain⟨r2,_,_,_,k1,_⟩:=cz h hl hi2
        exact h.dis i2 i r2 r k1 hr (ne hi2 hd hde) b (eZ h hl hi2 hb2) hbF
      refine⟨hb,vs,F' d,q4,tw hown (hx.frm.blk b hlt hnM) q3 ?_,by simp [obl,Value.ownBlock]⟩
      rw [q2.len,hlen,g5.len]
   ·refine⟨(h.row i s hr).1,?_⟩
    rw [ef]
    refine (h.row i s hr).2.mono hS hsz hK (fun b hb=>fK i s b hr hiD hb) fun b lo us e hlu hB=>?_
    have hlt:=hB.lt
    have hnM:¬jA (fC φ F D) pars.length b:=fun hM=>by obtain⟨i',r',_,h2,h3⟩:=nl hM;exact h.bxF i i' s r' b lo hr h2 e h3
    obtain⟨cs,T,h1,h2⟩:=hB
    rcases hx.frm.blk b hlt hnM with e'|⟨x,y,T',k1,k2,k3,k4⟩
    ·exact⟨cs,T,e'.trans h1,h2⟩
    ·rw [h1] at k1
     injection k1 with k1
     injection k1 with k1 k1'
     subst k1 k1'
     refine⟨y,T,k2,fun j x hjx=>?_⟩
     rw [k4 (lo+j) ?_]
     ·exact h2 j x hjx
     ·intro hR
      have hjl:j<us.length:=(List.getElem?_eq_some_iff.1 hjx).1
      rcases nr hR with ⟨i',r',lo',p1,p2,p3,p4,p5⟩|⟨i',r',p1,p2,p3⟩
      ·have:=h.bxd i' i r' s b lo' lo p2 hr (fun e=>hiD (e▸p1)) p3 e
       omega
      ·exact h.bxF i i' s r' b lo hr p2 e p3
  ·-- nodup
   rcases row3 i s hs with ⟨d,r,c,b,lo,hidx,hd,hiD,hdl,hr,hc,rfl,hlen,hφ,hh⟩|⟨hiD,hr,ef⟩
   ·rcases hh with ⟨e,ef⟩|⟨n,cc,e,ef,hbF⟩
    ·rw [ef];exact hx.nod d hdl
    ·rw [ef];exact List.nodup_cons.2 ⟨(hx.bxF d b lo hdl hφ).2 d hdl,hx.nod d hdl⟩
   ·rw [ef];exact h.nod i s hr
  ·-- disjoint
   have sub:∀i s b,hp3 i=some s→b∈fBk φ F F' D i→b∈F i∨(∃d,idx i D=some d∧d<pars.length∧b∈F' d):=by
    intro i s b hs hb
    rcases row3 i s hs with ⟨d,r,c,b',lo,hidx,hd,hiD,hdl,hr,hc,_,hlen,hφ,hh⟩|⟨hiD,hr,ef⟩
    ·rcases hh with ⟨e,ef⟩|⟨n,cc,e,ef,hbF⟩
     ·rw [ef] at hb;exact .inr ⟨d,hidx,hdl,hb⟩
     ·rw [ef] at hb
      rcases List.mem_cons.1 hb with rfl|hb
      ·exact .inl hbF
      ·exact .inr ⟨d,hidx,hdl,hb⟩
    ·rw [ef] at hb;exact .inl hb
   have hpi:∀i s,hp3 i=some s→∃r,σ.hp i=some r:=fun i s hs=>by
    rcases row3 i s hs with ⟨_,r,_,_,_,_,_,_,_,hr,_⟩|⟨_,hr,_⟩
    ·exact⟨r,hr⟩
    ·exact⟨s,hr⟩
   have mix:∀i j s t b,hp3 i=some s→hp3 j=some t→i≠j→b∈fBk φ F F' D i→b∈F i→∀d,idx j D=some d→d<pars.length→b∈F' d→False:=by
    intro i j s t b hs ht hij hb hbi d hidx hdl hbd
    obtain⟨r,hr⟩:=hpi i s hs
    obtain⟨r2,hr2⟩:=hpi j t ht
    have hlt:=Flt i r b hr hbi
    rcases row3 i s hs with ⟨d1,r1,c1,b1,lo1,hidx1,hd1,hiD1,hdl1,hr1,_,_,_,hφ1,hh1⟩|⟨hiD,hr',ef⟩
    ·have hdd:d1≠d:=by
      rintro rfl
      have h1:=eY hidx1
      have h2:=eY hidx
      rw [h1] at h2;injection h2 with h2;exact hij h2
     rcases hh1 with ⟨_,ef⟩|⟨n,cc,_,ef,_⟩
     ·rw [ef] at hb;exact hx.dis d1 d hdl1 hdl hdd b hb hbd
     ·rw [ef] at hb
      rcases List.mem_cons.1 hb with rfl|hb
      ·exact (hx.bxF d1 b lo1 hdl1 hφ1).2 d hdl hbd
      ·exact hx.dis d1 d hdl1 hdl hdd b hb hbd
    ·refine (hx.own b (.inr ⟨d,hdl,hbd⟩)).elim (fun hM=>?_) omq
     obtain⟨i',r',h1,h2,h3⟩:=nl hM
     exact h.dis i' i r' r h2 hr (fun e=>hiD (e▸h1)) b h3 hbi
   intro hb'
   rcases sub i s b hs hb with h1|⟨d,h1,h2,h3⟩
   ·rcases sub j t b ht hb' with h4|⟨d,h4,h5,h6⟩
    ·obtain⟨r,hr⟩:=hpi i s hs
     obtain⟨r2,hr2⟩:=hpi j t ht
     exact h.dis i j r r2 hr hr2 hij b h1 h4
    ·exact mix i j s t b hs ht hij hb h1 d h4 h5 h6
   ·rcases sub j t b ht hb' with h4|⟨d',h4,h5,h6⟩
    ·exact mix j i t s b ht hs (Ne.symm hij) hb' h4 d h1 h2 h3
    ·refine hx.dis d d' h2 h5 ?_ b h3 h6
     rintro rfl
     have e1:=eY h1
     have e2:=eY h4
     rw [e1] at e2;injection e2 with e2;exact hij e2
  ·-- boxes apart
   have len:∀i s,hp3 i=some s→∃r,σ.hp i=some r∧s.cs.length=r.cs.length:=fun i s hs=>by
    rcases row3 i s hs with ⟨_,r,c,_,_,_,_,_,_,hr,_,rfl,hlen,_⟩|⟨_,hr,_⟩
    ·exact⟨r,hr,hlen⟩
    ·exact⟨s,hr,rfl⟩
   obtain⟨r,hr,e1⟩:=len i s hs
   obtain⟨r2,hr2,e2⟩:=len j t ht
   rw [e1,e2]
   exact h.bxd i j r r2 b lo lo' hr hr2 hij e e'
  ·-- frame
   have hf:=h.frm
   refine⟨hx.frm.os.trans hf.os,hx.frm.tape.trans hf.tape,hx.frm.output.trans hf.output,Nat.le_trans hf.size hsz,fun b hb hM=>(hf.blk b hb hM).trans ?_⟩
   refine (hx.frm.blk b (Nat.lt_of_lt_of_le hb hf.size) fun hM'=>?_).mono fun o hR=>?_
   ·obtain⟨i,r,_,h2,h3⟩:=nl hM'
    exact (h.own i r b h2 h3).elim hM omq
   ·rcases nr hR with ⟨i,r,lo,_,h2,h3,h4,h5⟩|⟨i,r,_,h2,h3⟩
    ·rcases Nat.lt_or_ge i C.N with hi|hi
     ·obtain⟨p1,p2⟩:=h.par i hi
      rw [h3] at p1
      injection p1 with p1 p1'
      have:=p2 r h2 (o-lo) omq
      rw [←p1,←p1',show lo+(o-lo)=o by omega] at this
      exact this
     ·have:=h.new i r b lo h2 h3 hi
      omega
    ·exact ((h.own i r b h2 h3).elim hM omq).elim
  ·-- own
   rcases row3 i s hs with ⟨d,r,c,b',lo,hidx,hd,hiD,hdl,hr,hc,_,hlen,hφ,hh⟩|⟨hiD,hr,ef⟩
   ·rcases hh with ⟨e,ef⟩|⟨n,cc,e,ef,hbF⟩
    ·rw [ef] at hb;exact own' b (hx.own b (.inr ⟨d,hdl,hb⟩))
    ·rw [ef] at hb
     rcases List.mem_cons.1 hb with rfl|hb
     ·exact h.own i r b hr hbF
     ·exact own' b (hx.own b (.inr ⟨d,hdl,hb⟩))
   ·rw [ef] at hb;exact h.own i s b hr hb
  ·-- par
   rcases row3 i s hs with ⟨d,r,c,b',lo,_,_,_,_,hr,_,rfl,hlen,_⟩|⟨_,hr,_⟩
   ·exact (h.par i hi).2 r hr j (by simpa [hlen] using hj)
   ·exact (h.par i hi).2 s hr j hj
  ·-- new
   rcases row3 i s hs with ⟨d,r,c,b',lo',_,_,_,_,hr,_⟩|⟨_,hr,_⟩
   ·exact h.new i r b lo hr e hN
   ·exact h.new i s b lo hr e hN
 have lentF:∀d b,d<pars.length→b∈F' d→¬(St b∧b<w.heap.size):=fun d b hd hb hS=>(hx.own b (.inr ⟨d,hd,hb⟩)).elim (fun hM=>by obtain⟨i,r,_,h2,h3⟩:=nl hM;exact h.stF i r b h2 h3 hS.1) omq
 have one2:∀i s b,hp3 i=some s→b∈fBk φ F F' D i→¬(St b∧b<w.heap.size):=by
  intro i s b hs hb hS
  rcases row3 i s hs with ⟨d,r,c,b',lo,hidx,hd,hiD,hdl,hr,hc,_,hlen,hφ,hh⟩|⟨hiD,hr,ef⟩
  ·rcases hh with ⟨e,ef⟩|⟨n,cc,e,ef,hbF⟩
   ·rw [ef] at hb;exact lentF d b hdl hb hS
   ·rw [ef] at hb
    rcases List.mem_cons.1 hb with rfl|hb
    ·exact h.stF i r b hr hbF hS.1
    ·exact lentF d b hdl hb hS
  ·rw [ef] at hb;exact h.stF i s b hr hb hS.1
 have one3:∀i s b lo,hp3 i=some s→φ i=.box b lo→¬(St b∧b<w.heap.size):=by
  intro i s b lo hs e hS
  rcases row3 i s hs with ⟨d,r,c,b',lo',_,_,_,_,hr,_⟩|⟨_,hr,_⟩
  ·exact h.stB i r b lo hr e hS.1
  ·exact h.stB i s b lo hr e hS.1
 have one4:∀b∈G,¬(St b∧b<w.heap.size):=fun b hb hS=>(hx.own b (.inl hb)).elim (fun hM=>by obtain⟨i,r,_,h2,h3⟩:=nl hM;exact h.stF i r b h2 h3 hS.1) omq
 rcases hm with ⟨m1,m2⟩|hm
 ·exact key (fun b=>St b∧b<w.heap.size) (fun b hb hlt=>⟨hb,hlt⟩) one2 one3 one4 (fun b hb=>h.stS b hb.1) (fun d c vs hc hq=>hq.rofr_ (m2 c (List.mem_of_getElem? hc))) (hx.res.rofr_ m1)
 ·refine key (fun b=>(St b∧b<w.heap.size)∨St' b) (fun b hb hlt=>.inl ⟨hb,hlt⟩) ?_ ?_ ?_ ?_ (fun d c vs hc hq=>CRL.sub_ (fun b hb=>.inr hb) hq) (VRF.sub_ (fun b hb=>.inr hb) hx.res)
  ·rintro i s b hs hb (hS|hS)
   ·exact one2 i s b hs hb hS
   ·obtain⟨t1,t2,t3⟩:=hx.sta b hS
    rcases row3 i s hs with ⟨d,r,c,b',lo,hidx,hd,hiD,hdl,hr,hc,_,hlen,hφ,hh⟩|⟨hiD,hr,ef⟩
    ·rcases hh with ⟨e,ef⟩|⟨n,cc,e,ef,hbF⟩
     ·rw [ef] at hb;exact (t3 d hdl).1 hb
     ·rw [ef] at hb
      rcases List.mem_cons.1 hb with rfl|hb
      ·exact (t3 d hdl).2 lo hφ
      ·exact (t3 d hdl).1 hb
    ·rw [ef] at hb
     rcases t1 (Flt i s b hr hb) with (h1|⟨z,hz,r,hzr,hbz⟩)|hM
     ·exact h.stF i s b hr hb h1
     ·refine h.dis z i r s hzr hr ?_ b hbz hb
      rintro rfl
      rw [hm z hz] at hs;cases hs
     ·obtain⟨i',r',h1,h2,h3⟩:=nl hM
      exact h.dis i' i r' s h2 hr (fun e=>hiD (e▸h1)) b h3 hb
  ·rintro i s b lo hs e (hS|hS)
   ·exact one3 i s b lo hs e hS
   ·obtain⟨t1,t2,t3⟩:=hx.sta b hS
    rcases row3 i s hs with ⟨d,r,c,b',lo',hidx,hd,hiD,hdl,hr,hc,_,hlen,hφ,hh⟩|⟨hiD,hr,ef⟩
    ·rcases hh with ⟨e',ef⟩|⟨n,cc,e',_⟩
     ·rw [e] at e';injection e' with e1 e2;subst e1 e2
      exact (t3 d hdl).2 lo hφ
     ·rw [e] at e';cases e'
    ·rcases t1 (bxlt i s b lo hr e) with (h1|⟨z,hz,r,hzr,hbz⟩)|hM
     ·exact h.stB i s b lo hr e h1
     ·exact h.bxF i z s r b lo hr hzr e hbz
     ·obtain⟨i',r',h1,h2,h3⟩:=nl hM
      exact h.bxF i i' s r' b lo hr h2 e h3
  ·rintro b hb (hS|hS)
   ·exact one4 b hb hS
   ·exact (hx.sta b hS).2.1 hb
  ·rintro b (hS|hS) hlt
   ·exact h.stS b hS.1 hlt
   ·rcases (hx.sta b hS).1 (Nat.lt_of_lt_of_le hlt h.frm.size) with (h1|⟨z,hz,r,hzr,hbz⟩)|hM
    ·exact h.stS b h1 hlt
    ·exact .inr ((h.own z r b hzr hbz).resolve_right omq)
    ·obtain⟨i,r,_,h2,h3⟩:=nl hM
     exact .inr ((h.own i r b h2 h3).resolve_right omq)
end
end Go.Proofs.YtmnneflenebgmaaGreat
