/- What the statement StockSpared leans on, part 1 of 5: contracts of the program's functions; conditions: none. -/
import Derived.Below
import Derived.Deep.Draws
import Derived.Deep.AppendLies
import Derived.Maps.AppendAt
import Derived.OwnWalk
import Derived.Laws.BytesArg
import Derived.Laws.MakeOwn
import Derived.Laws.OwnMore
import Derived.Deep.OwnRows
import Derived.Tactics
import Derived.Lib.ConvBytes
import Derived.Laws.Slices
import Derived.WalkKit
import Derived.KernelRfl
import Derived.RowKit3
import Derived.Deep.LoopGhost
import Derived.Deep.QuietTactic
import Derived.BigQuiet
import Derived.WideLaws
import Derived.Deep.DeepCutAuto
import Derived.Deep.CutBlock
import Derived.Deep.RegionHeld3
import Derived.Laws.Rows
import Derived.Lib.AppendStr
import Derived.ArgAppend
import Derived.Laws.IdiomCopy
import Derived.RowKit
import Derived.OrdersHeld
import Derived.Laws.BitsLemmas
import Derived.Laws.StructEq
import Derived.Test.YtmhomdohhihlcaaProg
import Derived.Laws.CopyOwn
import Derived.Maps.OwnSet
import Derived.DeepKeys4
import Derived.RangeFuncRecord
import Derived.RangeFuncNested
import Derived.RangeFuncBound
import Derived.RangeFuncCalls
import Derived.RangeFuncLeaves
import Derived.Shelf.Abstract
import Derived.Shelf.RegionOpen
import Derived.OwnWalkIn
import Derived.TacticsInMore
import Derived.LoopNIn
import Derived.LoopIn
import Derived.Sort.LoopGhostIn
import Derived.Sort.CutIn
import Derived.StillTailTactics
import Derived.OpenShut
set_option linter.unusedVariables false
set_option linter.unusedSimpArgs false
set_option linter.constructorNameAsVariable false
set_option linter.unusedSectionVars false
namespace Go.Proofs.YtmhomdohhihlcaaW.PrintWords
open Go.RowKit
structure Q0 (p:Prop):Prop where mk::(out:p)
structure Yg (w w':World):Prop where mk::(out:∃ n,w'=w.drewN n)
theorem Yg.refl (w:World):Yg w w:=⟨⟨0,rfl⟩⟩
theorem Yg.step {w w':World} (h:Yg w w') (n:Nat):Yg w (w'.drewN n):=by
 obtain ⟨m,rfl⟩:=h
 exact ⟨⟨m+n,World.drewN_drewN ..⟩⟩
def rd (xs:List Int) (i:Int):Int:=xs.getD i.toNat 0
theorem Q3 {w W:World} (h:Below w.heap.size w W) (o:Obj):Below w.heap.size w (W.alloc o):=h.alloc h.size o
theorem Yr {B:Nat} {w W:World} (h:Below B w W):Below B w W.drew:=⟨h.os,h.tape,h.output,h.size,h.block⟩
theorem Q1 {B:Nat} {w W:World} (h:Below B w W) (n:Nat):Below B w (W.drewN n):=⟨h.os,h.tape,h.output,h.size,h.block⟩
theorem qgK {B:Nat} {w w1 w2:World} (h:Below B w w1) (hB:B≤w1.heap.size) (k:Below w1.heap.size w1 w2):Below B w w2 :=
 h.trans ⟨k.os,k.tape,k.output,k.size,fun i hi=>k.block i (Nat.lt_of_lt_of_le hi hB)⟩
theorem qcr {w w1:World} (h:Below w.heap.size w w1) (row:Option Nat):w.grownBy w1 row:=⟨h.os,h.tape,h.output,h.size,fun i hi _=>h.block i hi⟩
theorem qcZ {w w1:World} (h:Below w.heap.size w w1) {a:Addr} {v:Value} (hc:w.cell? a=some v):w1.cell? a=some v:=(h.cell (World.block_lt_of_cell? w a hc)).trans hc
theorem KV (g j:Nat):(⟨g,0,none⟩:Addr).add j=⟨g,j,none⟩:=by unfold Addr.add;split<;>simp_all
def qqR (w:World) (k:IntKind) (A:Option Addr) (n:Nat) (xs:List Int):Prop :=
 xs.length=n∧n≤9223372036854775807∧(0<n → ∃ ad,A=some ad ∧ ∀ j,j<n→w.cell? (ad.add j)=some (.int k (xs.getD j 0)))
theorem qnp (W:World) (base:Nat) (e:TypeId) (size:Nat):W.ownsRow base e size (.slice none 0 0) 0 []:=⟨by simp,.inl ⟨rfl,rfl⟩⟩
theorem qav {w:World} {base:Nat} {e:TypeId} {size n:Nat} {v:Value} {xs:List Value} (h:w.ownsRow base e size v n xs) (k:Nat) (hk:v.ownBlock=some k):base≤k:=by
 rcases h.2 with ⟨rfl,_⟩|⟨g,cap,cur,rfl,hb,_⟩
 ·
  simp [Value.ownBlock] at hk
 have:g=k:=by simpa [Value.ownBlock] using hk
 omega
theorem qkY {w:World} {base:Nat} {e:TypeId} {size n:Nat} {v:Value} {xs:List Value} (h:w.ownsRow base e size v n xs) (k:Nat) (hk:v.ownBlock=some k):k<w.heap.size:=by
 rcases h.2 with ⟨rfl,_⟩|⟨g,cap,cur,rfl,hb,hh,_⟩
 ·
  simp [Value.ownBlock] at hk
 have:g=k:=by simpa [Value.ownBlock] using hk
 subst this
 exact (Array.getElem?_eq_some_iff.1 hh).1
theorem qnx {w w1:World} {base:Nat} {e:TypeId} {size n:Nat} {v:Value} {xs:List Value} (h:w.ownsRow base e size v n xs) (hb:Below w.heap.size w w1):w1.ownsRow base e size v n xs :=
 h.kept (qcr hb none) (by cases v.ownBlock<;>simp)
theorem qjm {w:World} {base n:Nat} {e:TypeId} {size:Nat} {v:Value} {xs:List Value} (h:w.ownsRow base e size v n xs):∃ A c,v = .slice A n c:=by
 rcases h.2 with ⟨rfl,rfl⟩|⟨g,cap,cur,rfl,_⟩
 ·
  exact ⟨none,0,rfl⟩
 exact ⟨_,cap,rfl⟩
def bytesOf (s:ByteArray):List Int:=s.data.toList.map fun b=>(b.toNat:Int)
def LeO {α:Type} (a b:Option α):Prop:=∀ r,a=some r→b=some r
theorem LeO.refl {α:Type} (a:Option α):LeO a a:=fun _ h=>h
theorem LeO.none {α:Type} (b:Option α):LeO Option.none b:=fun _ h=>by cases h
theorem LeO.ite {α:Type} {c:Prop} [Decidable c] {a a' b b':Option α} (h:LeO a a') (k:LeO b b'):LeO (if c then a else b) (if c then a' else b'):=by
 split
 ·
  exact h
 exact k
theorem LeO.bind {α β:Type} {a a':Option α} {f f':α→Option β} (h:LeO a a') (k:∀ x,LeO (f x) (f' x)):LeO (a.bind f) (a'.bind f'):=by
 intro r hr
 obtain ⟨x,hx,hf⟩:=Option.bind_eq_some_iff.1 hr
 exact Option.bind_eq_some_iff.2 ⟨x,h x hx,k x r hf⟩
theorem LeO.map {α β:Type} {a a':Option α} (f:α→β) (h:LeO a a'):LeO (a.map f) (a'.map f):=by
 intro r hr
 obtain ⟨x,hx,hf⟩:=Option.map_eq_some_iff.1 hr
 exact Option.map_eq_some_iff.2 ⟨x,h x hx,hf⟩
def Reps {α:Type} (R:α→List Value→Prop) (size:Nat) (ps:List α) (cs:List Value):Prop :=
 cs.length=ps.length*size ∧ ∀ j p,ps[j]? = some p→R p ((cs.drop (j*size)).take size)
theorem Reps.none {α:Type} (R:α→List Value→Prop) (size:Nat):Reps R size [] []:=⟨by simp,fun j p h=>by simp at h⟩
theorem Reps.snoc {α:Type} {R:α→List Value→Prop} {size:Nat} {ps:List α} {cs c:List Value} {p:α} (h:Reps R size ps cs) (hp:R p c) (hc:c.length=size):Reps R size (ps++[p]) (cs++c):=by
 refine ⟨by rw [List.length_append,h.1,hc,List.length_append,List.length_singleton,Nat.add_mul,Nat.one_mul],fun j q hq => ?_⟩
 rcases Nat.lt_or_ge j ps.length with hj|hj
 ·
  rw [List.getElem?_append_left hj] at hq
  have h1:j*size+size≤cs.length:=by rw [h.1,← Nat.succ_mul];exact Nat.mul_le_mul_right _ hj
  have h2:=h.2 j q hq
  rw [List.drop_append_of_le_length (by omega),List.take_append_of_le_length (by rw [List.length_drop];omega)]
  exact h2
 have hj':j=ps.length:=by
  have:=(List.getElem?_eq_some_iff.1 hq).1
  rw [List.length_append,List.length_singleton] at this
  omega
 subst hj'
 have hq':p=q:=by simpa using hq
 subst hq'
 rw [← h.1,List.drop_left,← hc,List.take_length]
 exact hp
theorem Reps.imp_ {α:Type} {R R':α→List Value→Prop} {size:Nat} {ps:List α} {cs:List Value} (h:Reps R size ps cs) (hR:∀ p c,R p c→R' p c):Reps R' size ps cs:=⟨h.1,fun j p hj=>hR _ _ (h.2 j p hj)⟩
def GR {α:Type} (R:α→List Value→Prop) (size:Nat) (w:World) (A:Option Addr) (n:Nat) (ps:List α):Prop :=
 ps.length=n∧n≤9223372036854775807∧(0<n → ∃ ad,A=some ad ∧ ∀ j p,ps[j]? = some p → ∃ c,c.length=size∧R p c ∧ ∀ i u,c[i]? = some u→w.cell? (ad.add (j*size+i))=some u)
theorem GR.get_ {α:Type} {R:α→List Value→Prop} {size:Nat} {w:World} {A:Option Addr} {n:Nat} {ps:List α} (h:GR R size w A n ps) (d:α) (i:Int) (h0:0≤i) (h1:i<n) :
  ∃ ad c,A=some ad∧c.length=size∧R (ps.getD i.toNat d) c ∧ ∀ j u,c[j]? = some u→w.cell? (ad.add (i.toNat*size+j))=some u:=by
 obtain ⟨ad,e,hc⟩:=h.2.2 (by omega)
 have hl:i.toNat<ps.length:=by have:=h.1;omega
 obtain ⟨c,hs,hr,hcell⟩:=hc i.toNat _ (List.getElem?_eq_getElem hl)
 refine ⟨ad,c,e,hs,?_,hcell⟩
 rw [List.getD_eq_getElem?_getD,List.getElem?_eq_getElem hl]
 exact hr
theorem GR.imp_ {α:Type} {R R':α→List Value→Prop} {size:Nat} {w w1:World} {A:Option Addr} {n:Nat} {ps:List α} (h:GR R size w A n ps) (hb:Below w.heap.size w w1) (hR:∀ p c,R p c→R' p c):GR R' size w1 A n ps :=
 ⟨h.1,h.2.1,fun hn=>by
  obtain ⟨ad,e,hc⟩:=h.2.2 hn
  refine ⟨ad,e,fun j p hj => ?_⟩
  obtain ⟨c,hs,hr,hcell⟩:=hc j p hj
  exact ⟨c,hs,hR _ _ hr,fun i u hu=>qcZ hb (hcell i u hu)⟩⟩
theorem qcY {α:Type} {R:α→List Value→Prop} {w:World} {base n size:Nat} {e:TypeId} {v:Value} {ps:List α} {cs:List Value} (h:w.ownsRow base e size v n cs) (hR:Reps R size ps cs) (hn:ps.length=n) :
  ∃ A c,v = .slice A n c∧GR R size w A n ps:=by
 rcases Nat.eq_zero_or_pos n with h0|h0
 ·
  rcases h.2 with ⟨rfl,rfl⟩|⟨g,cap,cur,rfl,_⟩
  ·
   exact ⟨none,0,rfl,hn,by omega,fun hp=>absurd hp (by omega)⟩
  exact ⟨_,cap,rfl,hn,by omega,fun hp=>absurd hp (by omega)⟩
 obtain ⟨g,cap,rfl,_,_⟩:=h.form h0
 have hm:n≤9223372036854775807:=by
  rcases h.2 with ⟨_,h1⟩|⟨g',cap',cur,he,_,_,h1,h2,_⟩
  ·
   omega
  simp only [maxLen] at h2
  omega
 refine ⟨_,cap,rfl,hn,hm,fun _=>⟨_,rfl,fun j p hj=>⟨(cs.drop (j*size)).take size,?_,hR.2 j p hj,fun i u hu => ?_⟩⟩⟩
 ·
  have hjl:=(List.getElem?_eq_some_iff.1 hj).1
  have h1:j*size+size≤cs.length:=by rw [hR.1,← Nat.succ_mul];exact Nat.mul_le_mul_right _ hjl
  rw [List.length_take,List.length_drop]
  omega
 refine h.cells (g:=g) rfl _ u ?_
 rw [List.getElem?_take] at hu
 split at hu
 ·
  rw [List.getElem?_drop] at hu
  exact hu
 cases hu
theorem Kr (ad:Addr) (m j:Nat) (hj:0<j):ad.add (m+j)=⟨(ad.add m).block,(ad.add m).off+j,none⟩:=by
 unfold Addr.add
 by_cases hm:m=0
 ·
  subst hm
  simp [Nat.ne_of_gt hj]
 simp [hm,Nat.add_assoc]
section
variable {P:Program} {ops:Array Oper} {rest:List Oper} {o:Oper} {a:Act} {Q:Exit→Act→World→Prop}
theorem Xs {w0 W:World} (base:Nat) (hgd:o.guard=none) (s x:Operand) (t e:TypeId) (z:Value) (size bytes:Nat)
  (ho:o.op = .call { callee:=.builtin .append,args:=#[s,x],argTypes:=#[t,t] })
  (ht:P.underlying t=some (.slice e)) (hinfo:(P.info? e).map (fun i=>(i.zero,i.size,i.bytes))=some (some z,size,bytes)) (hz:z.cells.size=size) (hs0:0<size) (hb0:0<bytes)
  (v:Value) (n:Nat) (xs ys:List Value) (hs:a.eval s=v) (hx:a.eval x = .slice (some ⟨W.heap.size,0,none⟩) 1 1) (hys:ys.length=size) (h1:∀ u∈ys,u.oneCell'=true)
  (HO:W.ownsRow base e size v n xs) (HB:Below base w0 W) (hbase:base≤W.heap.size) (hl:(n+1)*bytes≤140737488355328)
  (h:∀ v1 w1,w1.ownsRow base e size v1 (n+1) (xs++ys)→Below base w0 w1→W.grownBy w1 v.ownBlock→(v1.ownBlock=v.ownBlock ∨ ∃ b,v1.ownBlock=some b∧W.heap.size≤b)→wpList P ops Q rest (a.put o.dst v1) w1) :
  wpList P ops Q (o::rest) a (W.alloc (.cells ys.toArray e)):=by
 obtain ⟨i0,hi,hzz⟩:=Option.map_eq_some_iff.1 hinfo
 simp only [Prod.mk.injEq] at hzz
 obtain ⟨hz0,hz1,hz2⟩:=hzz
 have hlen:n+1≤140737488355328:=Nat.le_trans (Nat.le_mul_of_pos_right _ hb0) hl
 refine wpList_append_own_at (W.alloc (.cells ys.toArray e)) hgd s x t ho base e i0 z size bytes ht hi hz0 hz1 hz2 hz hs0 v n xs hs (HO.alloc _) ⟨W.heap.size,0,none⟩ 1 1 ys hx (by rw [hys];simp)
  (by simpa using World.news_of_block (cs:=ys.toArray) (t:=e) (fr:=(0,0)) (heap_alloc_new W (.cells ys.toArray e))) h1 (by simp only [maxLen];omega) hl (by simp;omega) ?_
 intro v1 w1 hown hg _ hat
 refine h v1 w1 hown ((HB.alloc hbase _).grown hg (by simp;omega) (qav HO)) (World.grownBy.trans (World.grownBy_alloc W _ _) hg) ?_
 rcases hat with hat|hat
 ·
  exact .inl hat
 exact .inr ⟨_,hat,by simp⟩
end
theorem qpR {w:World} {base:Nat} {e t:TypeId} {size n g:Nat} {v:Value} {xs:List Value} {cs:Array Value} (h:w.ownsRow base e size v n xs) (hg:w.heap[g]? = some (.cells cs t (0,0))) (hne:e≠t):some g≠v.ownBlock:=by
 rcases h.2 with ⟨rfl,_⟩|⟨g',cap,cur,rfl,_,hh,_⟩
 ·
  simp [Value.ownBlock]
 intro he
 have:g=g':=by simpa [Value.ownBlock] using he
 subst this
 rw [hg] at hh
 injection hh with hh
 injection hh with _ ht
 exact hne ht.symm
theorem qid {w:World} {g:Nat} {t:TypeId} {cs:Array Value} (h:w.heap[g]? = some (.cells cs t (0,0))) (i:Nat) (u:Value):(w.setCell ⟨g,i,none⟩ u).heap[g]? = some (.cells (cs.setIfInBounds i u) t (0,0)):=by
 simp [World.setCell,Array.getElem?_modify,h]
theorem Qk {w:World} {g:Nat} {t:TypeId} {cs:Array Value} (h:w.heap[g]? = some (.cells cs t (0,0))) {p:Addr} (hp:g≠p.block) (u:Value):(w.setCell p u).heap[g]? = some (.cells cs t (0,0)):=(Below.heap_setCell w p u g hp).trans h
theorem QL {w:World} {g:Nat} {o:Obj} (h:w.heap[g]? = some o):g<w.heap.size:=(Array.getElem?_eq_some_iff.1 h).1
theorem Q8 {w:World} {g:Nat} {t:TypeId} {cs:Array Value} (h:w.heap[g]? = some (.cells cs t (0,0))) (i:Nat):w.cell? ⟨g,i,none⟩=cs[i]?:=cell_of_row w g i cs t (0,0) h
theorem Q9 {w:World} {g:Nat} {t:TypeId} {cs:Array Value} (h:w.heap[g]? = some (.cells cs t (0,0))) (i:Nat):w.frozen? ⟨g,i,none⟩=false:=by simp [World.frozen?,h]
theorem JK {w w1:World} {g:Nat} {o:Obj} {row:Option Nat} (h:w.heap[g]? = some o) (hg:w.grownBy w1 row) (hne:some g≠row):w1.heap[g]? = some o:=(hg.block g (QL h) hne).trans h
def qlF (w w':World) (g:Nat) (row:Option Nat):Prop:=w.heap.size≤w'.heap.size ∧ ∀ i,i<w.heap.size→i≠g→some i≠row→w'.heap[i]? = w.heap[i]?
def Ev {α:Type} (g:Nat→Option α) (r:α):Prop:=∃ K,∀ k,K≤k→g k=some r
theorem Ev.now {α:Type} (r:α):Ev (fun _=>some r) r:=⟨0,fun _ _=>rfl⟩
theorem Ev.rounds {α:Type} {g:Nat→Option α} {r:α} (h:Ev g r):∃ k,g k=some r:=by
 obtain ⟨K,h⟩:=h
 exact ⟨K,h K (Nat.le_refl _)⟩
theorem Ev.bind {α β:Type} {g:Nat→Option α} {f:Nat→α→Option β} {a:α} {r:β} (h:Ev g a) (k:Ev (fun n=>f n a) r):Ev (fun n=>(g n).bind (f n)) r:=by
 obtain ⟨K,h⟩:=h
 obtain ⟨K',k⟩:=k
 refine ⟨max K K',fun n hn => ?_⟩
 have h1:=h n (by omega)
 have h2:=k n (by omega)
 simp only [h1,Option.bind_some]
 exact h2
theorem Ev.step {α:Type} {g f:Nat→Option α} {r:α} (h:∀ k,g (k+1)=f k) (k:Ev f r):Ev g r:=by
 obtain ⟨K,k⟩:=k
 refine ⟨K+1,fun n hn => ?_⟩
 obtain ⟨m,rfl⟩:∃ m,n=m+1:=⟨n-1,by omega⟩
 rw [h]
 exact k m (by omega)
theorem Ev.congr {α:Type} {g f:Nat→Option α} {r:α} (h:∀ k,g k=f k) (k:Ev f r):Ev g r:=by
 obtain ⟨K,k⟩:=k
 exact ⟨K,fun n hn=>(h n).trans (k n hn)⟩
section
variable {P:Program} {ops:Array Oper} {o:Oper} {a:Act} {Q:Exit→Act→World→Prop} {K:Act→World→Prop}
theorem qaD {w0 W:World} (base:Nat) (hw:Region.wanted o (yielded ops a.tmps)=true) (s x:Operand) (t e:TypeId) (z:Value) (size bytes:Nat)
  (ho:o.op = .call { callee:=.builtin .append,args:=#[s,x],argTypes:=#[t,t] })
  (ht:P.underlying t=some (.slice e)) (hinfo:(P.info? e).map (fun i=>(i.zero,i.size,i.bytes))=some (some z,size,bytes)) (hz:z.cells.size=size) (hs0:0<size) (hb0:0<bytes)
  (v:Value) (n:Nat) (xs ys:List Value) (hs:a.eval s=v) (hx:a.eval x = .slice (some ⟨W.heap.size,0,none⟩) 1 1) (hys:ys.length=size) (h1:∀ u∈ys,u.oneCell'=true)
  (HO:W.ownsRow base e size v n xs) (HB:Below base w0 W) (hbase:base≤W.heap.size) (hl:(n+1)*bytes≤140737488355328)
  (h:∀ v1 w1,w1.ownsRow base e size v1 (n+1) (xs++ys)→Below base w0 w1→W.grownBy w1 v.ownBlock→(v1.ownBlock=v.ownBlock ∨ ∃ b,v1.ownBlock=some b∧W.heap.size≤b)→K (a.put o.dst v1) w1) :
  if Region.wanted o (yielded ops a.tmps)=true then Oper.wp P o a (W.alloc (.cells ys.toArray e)) K Q else K (a.put o.dst undef) (W.alloc (.cells ys.toArray e)):=by
 obtain ⟨i0,hi,hzz⟩:=Option.map_eq_some_iff.1 hinfo
 simp only [Prod.mk.injEq] at hzz
 obtain ⟨hz0,hz1,hz2⟩:=hzz
 have hlen:n+1≤140737488355328:=Nat.le_trans (Nat.le_mul_of_pos_right _ hb0) hl
 rw [if_pos hw]
 obtain ⟨v1,w1,hr,hown,hg,_,hat⟩:=run_append_own_at (P:=P) (W.alloc (.cells ys.toArray e)) base t o.type e i0 z size bytes ht hi hz0 hz1 hz2 hz hs0 v n xs (HO.alloc _) ⟨W.heap.size,0,none⟩ 1 1 ys (by rw [hys];simp)
  (by simpa using World.news_of_block (cs:=ys.toArray) (t:=e) (fr:=(0,0)) (heap_alloc_new W (.cells ys.toArray e))) h1 (by simp only [maxLen];omega) hl (by simp;omega)
 unfold Oper.wp execOp
 simp only [ho,resolve,invoke,builtin,Sem.run_bind,Sem.run_pure,Result.andThen_ok,List.map_toArray,List.map_cons,List.map_nil,hs,hx,hr]
 refine h v1 w1 hown ((HB.alloc hbase _).grown hg (by simp;omega) (qav HO)) (World.grownBy.trans (World.grownBy_alloc W _ _) hg) ?_
 rcases hat with hat|hat
 ·
  exact .inl hat
 exact .inr ⟨_,hat,by simp⟩
end
theorem Xp {w:World} {base base':Nat} {e:TypeId} {size n:Nat} {v:Value} {xs:List Value} (h:w.ownsRow base e size v n xs) (hb:base'≤base):w.ownsRow base' e size v n xs:=by
 obtain ⟨h1,h2⟩:=h
 refine ⟨h1,?_⟩
 rcases h2 with h2|⟨g,cap,cur,rfl,hg,r⟩
 ·
  exact .inl h2
 exact .inr ⟨g,cap,cur,rfl,Nat.le_trans hb hg,r⟩
section
variable {α:Type} {enc:α→Value} {d:α}
def encs (enc:α→Value) (xs:List α):List Value:=xs.map enc
def rdOf (d:α) (xs:List α) (i:Int):α:=xs.getD i.toNat d
theorem qa6 (xs:List α):(encs enc xs).length=xs.length:=by simp [encs]
theorem qkm (xs:List α) (j:Nat) (h:j<xs.length):(encs enc xs)[j]? = some (enc (xs.getD j d)):=by
 simp [encs,List.getElem?_eq_getElem h,List.getD_eq_getElem?_getD]
def GC (enc:α→Value) (d:α) (w:World) (A:Option Addr) (n:Nat) (xs:List α):Prop :=
 xs.length=n∧n≤9223372036854775807∧(0<n → ∃ ad,A=some ad ∧ ∀ j,j<n→w.cell? (ad.add j)=some (enc (xs.getD j d)))
theorem GC.at_ {w:World} {A:Option Addr} {n:Nat} {xs:List α} (h:GC enc d w A n xs) (i:Int) (h0:0≤i) (h1:i<n):∃ ad,A=some ad∧w.cell? (ad.add i.toNat)=some (enc (rdOf d xs i)):=by
 obtain ⟨ad,e,hc⟩:=h.2.2 (by omega)
 exact ⟨ad,e,hc _ (by omega)⟩
theorem GC.drop_ {w:World} {A:Option Addr} {n c:Nat} {xs:List α} (h:GC enc d w A n xs) (i:Nat) (hi:i≤n) (hc:n≤c):GC enc d w (if c=i then A else A.map (·.add i)) (n-i) (xs.drop i):=by
 refine ⟨by rw [List.length_drop,h.1],by have:=h.2.1;omega,fun hp => ?_⟩
 obtain ⟨ad,rfl,hcell⟩:=h.2.2 (by omega)
 rw [if_neg (by omega)]
 refine ⟨ad.add i,rfl,fun j hj => ?_⟩
 have ha:(ad.add i).add j=ad.add (i+j):=by
  unfold Addr.add
  by_cases h1:i=0<;>by_cases h2:j=0<;>simp [h1,h2,Nat.add_assoc]
 rw [ha,hcell (i+j) (by omega)]
 simp [List.getD_eq_getElem?_getD,List.getElem?_drop]
theorem qes {P:Program} (enc:α→Value) (d:α) (t e:TypeId) (kl:IntKind) {i:TypeInfo} (ht:P.underlying t=some (.slice e)) (hi:P.info? e=some i) (hsz:i.size=1) (A:Option Addr) (n c m:Nat) (hm:m≤n) :
  ∃ A':Option Addr,(∀ W:World,(Instr.slice t (.slice A n c) (some (.int kl (m:Int))) none none).run P W = .ok (.slice A' (n-m) (c-m)) W) ∧
   ∀ (w:World) (xs:List α),n≤c→GC enc d w A n xs→GC enc d w A' (n-m) (xs.drop m):=by
 refine ⟨if c=m then A else A.map (·.add m),fun W => ?_,fun w xs hc h=>h.drop_ m hm hc⟩
 have hel:P.elem t=e:=by simp [Program.elem,ht]
 have hu:P.underlying t=some (.slice (P.elem t)):=by rw [hel];exact ht
 rw [run_slice_l W t A n c hu kl (m:Int) (Int.natCast_nonneg _) (by omega),hel]
 simp [sizeOf,typeInfo,hi,hsz,sliced,Result.andThen]
theorem qjl {W:World} {base g n cap:Nat} {e:TypeId} {xs:List α} (h:W.ownsRow base e 1 (.slice (some ⟨g,0,none⟩) n cap) n (encs enc xs)) (i:Int) (h0:0≤i) (h1:i<n) :
  W.cell? ⟨g,i.toNat,none⟩=some (enc (rdOf d xs i))∧W.frozen? ⟨g,i.toNat,none⟩=false:=by
 have hl:xs.length=n:=by have:=h.1;simp [encs] at this;exact this
 constructor
 ·
  have hc:=h.cells (g:=g) rfl i.toNat _ (qkm (d:=d) xs i.toNat (by omega))
  rwa [KV] at hc
 rcases h.2 with ⟨h',_⟩|⟨g',cap',cur,h',_,hh,_⟩
 ·
  cases h'
 have:g=g':=by injection h' with h';injection h' with h';injection h' with h'
 subst this
 simp [World.frozen?,hh]
theorem qer {W:World} {base g n cap:Nat} {e:TypeId} {xs:List α} (h:W.ownsRow base e 1 (.slice (some ⟨g,0,none⟩) n cap) n (encs enc xs)) (i:Int) (x:α) :
  (W.setCell ⟨g,i.toNat,none⟩ (enc x)).ownsRow base e 1 (.slice (some ⟨g,0,none⟩) n cap) n (encs enc (xs.set i.toNat x))∧W.grownBy (W.setCell ⟨g,i.toNat,none⟩ (enc x)) (some g):=by
 have hs:=h.stored i.toNat (enc x)
 have he:(encs enc xs).set i.toNat (enc x)=encs enc (xs.set i.toNat x):=by simp [encs,List.map_set]
 rwa [he] at hs
end
theorem Q2 {w:World} {g:Nat} {o:Obj} (h:w.heap[g]? = some o) (o':Obj):(w.alloc o').heap[g]? = some o:=(Below.heap_alloc w o' g (QL h)).trans h
theorem Q7 {w:World} {g:Nat} {o:Obj} (h:w.heap[g]? = some o):w.drew.heap[g]? = some o:=h
theorem Q4 {w:World} {g:Nat} {o:Obj} (h:w.heap[g]? = some o) (n:Nat):(w.drewN n).heap[g]? = some o:=h
theorem Qe {w w1:World} {g:Nat} {o:Obj} (h:w.heap[g]? = some o) (hb:Below w.heap.size w w1):w1.heap[g]? = some o:=(hb.block g (QL h)).trans h
theorem OS (w:World) (o:Obj):(w.alloc o).heap[w.heap.size]? = some o:=heap_alloc_new w o
section
variable {P:Program}
theorem Xv {fn:Func} {p u:Tmp} {ty:TypeId} (h:fn.results=#[.cell p ty,.tmp u]) (tmps:Array Value) (w:World) (g:Nat) (t:TypeId) (cs:Array Value) (fr:Nat × Nat) (d:TypeDesc)
  (hp:tmps.getD p undef = .pointer (some ⟨g,0,none⟩)) (hg:w.heap[g]? = some (.cells cs t fr))
  (hu:P.underlying ty=some d) (hd:(match d with | .struct _ | .array _ _=>true|_=>false)=true) (hi:(P.info? ty).map (·.size)=some cs.size) :
  (results fn tmps).run P w = .ok (.tuple #[.agg cs,tmps.getD u undef]) w:=by
 have hp':tmps[p]?.getD undef = .pointer (some ⟨g,0,none⟩):=by simpa using hp
 simp [results,h,hp',asAddr,run_loadVar_row w g t ty cs fr d hg hu hd hi]
theorem qhB {fn:Func} {p u:Tmp} {ty:TypeId} (h:fn.results=#[.tmp u,.cell p ty]) (tmps:Array Value) (w:World) (g:Nat) (t:TypeId) (cs:Array Value) (fr:Nat × Nat) (d:TypeDesc)
  (hp:tmps.getD p undef = .pointer (some ⟨g,0,none⟩)) (hg:w.heap[g]? = some (.cells cs t fr))
  (hu:P.underlying ty=some d) (hd:(match d with | .struct _ | .array _ _=>true|_=>false)=true) (hi:(P.info? ty).map (·.size)=some cs.size) :
  (results fn tmps).run P w = .ok (.tuple #[tmps.getD u undef,.agg cs]) w:=by
 have hp':tmps[p]?.getD undef = .pointer (some ⟨g,0,none⟩):=by simpa using hp
 simp [results,h,hp',asAddr,run_loadVar_row w g t ty cs fr d hg hu hd hi]
end
theorem qpQ {w:World} {base n m c size:Nat} {e:TypeId} {A:Option Addr} {xs:List Value} (h:w.ownsRow base e size (.slice A m c) n xs):m≤c:=by
 rcases h.2 with ⟨he,_⟩|⟨g,cap,cur,he,_,_,hnc,_⟩
 ·
  injection he with _ h2 h3
  omega
 injection he with _ h2 h3
 omega
def KU {α:Type} (R:α→List Value→Prop) (e:TypeId) (size:Nat) (w:World) (base:Nat) (v:Value) (ps:List α):Prop :=
 ∃ inner,w.ownsRow base e size v ps.length inner∧Reps R size ps inner
section
variable {α:Type} {R R':α→List Value→Prop} {e:TypeId} {size:Nat} {w w1:World} {base:Nat} {v:Value} {ps:List α}
theorem KU.none_ (R:α→List Value→Prop) (e:TypeId) (size:Nat) (w:World) (base:Nat):KU R e size w base (.slice none 0 0) []:=⟨[],qnp _ _ _ _,Reps.none _ _⟩
theorem KU.imp_ (h:KU R e size w base v ps) (hR:∀ p c,R p c→R' p c):KU R' e size w base v ps:=by
 obtain ⟨inner,ho,hr⟩:=h
 exact ⟨inner,ho,hr.imp_ hR⟩
theorem KU.reads (h:KU R e size w base v ps):∃ A c,v = .slice A ps.length c∧ps.length≤c∧GR R size w A ps.length ps:=by
 obtain ⟨inner,ho,hr⟩:=h
 obtain ⟨A,c,rfl,hrow⟩:=qcY ho hr rfl
 exact ⟨A,c,rfl,qpQ ho,hrow⟩
theorem KU.ne_block (h:KU R e size w base v ps) {g:Nat} {t:TypeId} {cells:Array Value} (hb:w.heap[g]? = some (.cells cells t (0,0))) (ht:e≠t):some g≠v.ownBlock:=by
 obtain ⟨inner,ho,hr⟩:=h
 exact qpR ho hb ht
end
section
variable {α:Type} {P:Program}
theorem Xe (enc:α→Value) (d:α) (t e:TypeId) (kl:IntKind) {i:TypeInfo} (ht:P.underlying t=some (.slice e)) (hi:P.info? e=some i) (hsz:i.size=1) (A:Option Addr) (c:Nat) (xs:List α) (j:Int) (h0:0≤j) (hm:j≤xs.length) (hc:xs.length≤c) :
  ∃ A':Option Addr,(∀ W:World,(Instr.slice t (.slice A xs.length c) (some (.int kl j)) none none).run P W = .ok (.slice A' (xs.drop j.toNat).length (c-j.toNat)) W) ∧
   (∀ w:World,GC enc d w A xs.length xs→GC enc d w A' (xs.drop j.toNat).length (xs.drop j.toNat))∧(xs.drop j.toNat).length≤c-j.toNat:=by
 obtain ⟨m,rfl⟩:=Int.eq_ofNat_of_zero_le h0
 simp only [Int.toNat_natCast]
 have hmn:m≤xs.length:=by omega
 obtain ⟨A',h1,h2⟩:=qes (P:=P) enc d t e kl ht hi hsz A xs.length c m hmn
 have hl:(xs.drop m).length=xs.length-m:=List.length_drop
 exact ⟨A',fun W=>by rw [hl];exact h1 W,fun w h=>by rw [hl];exact h2 w xs hc h,by rw [hl];omega⟩
end
structure Kd (α:Type) where
 sz:Nat
 E:List Nat
 K:World→α→List Value→Prop
 M:World→Nat→(Nat→Prop)→α→List Value→Prop
 K_len:∀ {w x cs},K w x cs→cs.length=sz
 K_one:∀ {w x cs},K w x cs → ∀ u∈cs,u.oneCell'=true
 K_below:∀ {w w1:World} {x cs},Below w.heap.size w w1→K w x cs→K w1 x cs
 K_of_M:∀ {w base ok x cs},M w base ok x cs→K w x cs
 M_mono:∀ {w base ok ok' x cs},(∀ k,ok k→ok' k)→M w base ok x cs→M w base ok' x cs
 M_bound:∀ {w:World} {base ok x cs},M w base ok x cs→M w base (fun k=>ok k∧base≤k∧k<w.heap.size ∧ ∃ q,q∈E ∧ ∃ cells,w.heap[k]? = some (.cells cells q (0,0))) x cs
 M_move:∀ {w w1:World} {base ok x cs},(∀ k,ok k→w1.heap[k]? = w.heap[k]?)→M w base ok x cs→M w1 base ok x cs
 M_lower:∀ {w base base' ok x cs},base'≤base→M w base ok x cs→M w base' ok x cs
theorem qkZ {w w1:World} {base:Nat} {e:TypeId} {size n:Nat} {v:Value} {xs:List Value} (h:w.ownsRow base e size v n xs) (hm:∀ k,v.ownBlock=some k→w1.heap[k]? = w.heap[k]?):w1.ownsRow base e size v n xs:=by
 obtain ⟨h1,h2⟩:=h
 refine ⟨h1,?_⟩
 rcases h2 with h2|⟨g,cap,cur,rfl,hg,hh,r⟩
 ·
  exact .inl h2
 exact .inr ⟨g,cap,cur,rfl,hg,(hm g (by simp [Value.ownBlock])).trans hh,r⟩
theorem KX {w:World} {base:Nat} {e:TypeId} {size n:Nat} {v:Value} {xs:List Value} (h:w.ownsRow base e size v n xs) (k:Nat) (hk:v.ownBlock=some k):∃ cells,w.heap[k]? = some (.cells cells e (0,0)):=by
 rcases h.2 with ⟨rfl,_⟩|⟨g,cap,cur,rfl,hg,hh,r⟩
 ·
  simp [Value.ownBlock] at hk
 have:g=k:=by simpa [Value.ownBlock] using hk
 subst this
 exact ⟨cur,hh⟩
namespace Kd
def C {α:Type} (d:Kd α) (w:World) (A:Option Addr) (n:Nat) (xs:List α):Prop:=GR (d.K w) d.sz w A n xs
def R {α:Type} (d:Kd α) (e:Nat) (w:World) (base:Nat) (ok:Nat→Prop) (v:Value) (xs:List α):Prop :=
 (∀ k,v.ownBlock=some k→ok k)∧KU (d.M w base (fun k=>ok k∧some k≠v.ownBlock)) e d.sz w base v xs
section
variable {α:Type} {d:Kd α} {e:Nat} {w w1:World} {base:Nat} {ok ok':Nat→Prop} {v:Value} {xs:List α}
theorem C_below {A:Option Addr} {n:Nat} (h:d.C w A n xs) (hb:Below w.heap.size w w1):d.C w1 A n xs:=GR.imp_ h hb (fun _ _ hp=>d.K_below hb hp)
theorem R_nil (d:Kd α) (e:Nat) (w:World) (base:Nat) (ok:Nat→Prop):d.R e w base ok (.slice none 0 0) []:=⟨fun k hk=>by simp [Value.ownBlock] at hk,KU.none_ _ _ _ _ _⟩
theorem R_mono (h:d.R e w base ok v xs) (hok:∀ k,ok k→ok' k):d.R e w base ok' v xs:=⟨fun k hk=>hok k (h.1 k hk),h.2.imp_ (fun _ _ hp=>d.M_mono (fun k hk=>⟨hok k hk.1,hk.2⟩) hp)⟩
theorem R_bound (h:d.R e w base ok v xs):d.R e w base (fun k=>ok k∧base≤k∧k<w.heap.size ∧ ∃ q,q∈e::d.E ∧ ∃ cells,w.heap[k]? = some (.cells cells q (0,0))) v xs:=by
 obtain ⟨h0,inner,ho,hr⟩:=h
 refine ⟨fun k hk => ?_,inner,ho,hr.imp_ (fun _ _ hp=>d.M_mono (fun k hk => ?_) (d.M_bound hp))⟩
 ·
  obtain ⟨cells,hc⟩:=KX ho k hk
  exact ⟨h0 k hk,qav ho k hk,qkY ho k hk,e,List.mem_cons_self,cells,hc⟩
 obtain ⟨⟨h1,h2⟩,h3,h4,q,hq,hc⟩:=hk
 exact ⟨⟨h1,h3,h4,q,List.mem_cons_of_mem _ hq,hc⟩,h2⟩
theorem R_move (h:d.R e w base ok v xs) (hm:∀ k,ok k→w1.heap[k]? = w.heap[k]?):d.R e w1 base ok v xs:=by
 obtain ⟨h0,inner,ho,hr⟩:=h
 exact ⟨h0,inner,qkZ ho (fun k hk=>hm k (h0 k hk)),hr.imp_ (fun _ _ hp=>d.M_move (fun k hk=>hm k hk.1) hp)⟩
theorem R_lower {base':Nat} (h:d.R e w base ok v xs) (hb:base'≤base):d.R e w base' ok v xs:=by
 obtain ⟨h0,inner,ho,hr⟩:=h
 exact ⟨h0,inner,Xp ho hb,hr.imp_ (fun _ _ hp=>d.M_lower hb hp)⟩
theorem qcd (h:d.R e w base ok v xs) (hm:∀ k,ok k→k<w.heap.size→w1.heap[k]? = w.heap[k]?):d.R e w1 base ok v xs :=
 R_mono (R_move (R_bound h) (fun k hk=>hm k hk.1 hk.2.2.1)) (fun _ hk=>hk.1)
theorem qjW {x:α} {cs:List Value} (h:d.M w base ok x cs) (hm:∀ k,ok k→k<w.heap.size→w1.heap[k]? = w.heap[k]?):d.M w1 base ok x cs :=
 d.M_mono (fun _ hk=>hk.1) (d.M_move (fun k hk=>hm k hk.1 hk.2.2.1) (d.M_bound h))
theorem R_below (h:d.R e w base ok v xs) (hb:Below w.heap.size w w1):d.R e w1 base ok v xs:=qcd h (fun k _ hk=>hb.block k hk)
theorem qlG {x:α} {cs:List Value} (h:d.M w base ok x cs) (hb:Below w.heap.size w w1):d.M w1 base ok x cs:=qjW h (fun k _ hk=>hb.block k hk)
theorem R_far (h:d.R e w base ok v xs) {p:Addr} (hok:∀ k,ok k→k≠p.block) (u:Value):d.R e (w.setCell p u) base ok v xs:=qcd h (fun k ho _=>Below.heap_setCell w p u k (hok k ho))
theorem R_types (h:d.R e w base ok v xs) {g t:Nat} {cells:Array Value} (hb:w.heap[g]? = some (.cells cells t (0,0))) (ht:∀ q,q∈e::d.E→q≠t):d.R e w base (fun k=>ok k∧k≠g) v xs :=
 R_mono (R_bound h) (fun k hk=>⟨hk.1,by
  obtain ⟨_,_,_,q,hq,cells',hc⟩:=hk
  rintro rfl
  rw [hc] at hb
  injection hb with hb
  injection hb with _ hb
  exact ht q hq hb⟩)
theorem R_reads (h:d.R e w base ok v xs):∃ A c,v = .slice A xs.length c∧xs.length≤c∧d.C w A xs.length xs:=by
 obtain ⟨A,c,he,hl,hr⟩:=KU.reads h.2
 exact ⟨A,c,he,hl,hr.imp_ (Below.refl _ _) (fun _ _ hp=>d.K_of_M hp)⟩
theorem R_slice (h:d.R e w base ok v xs):∃ A c,v = .slice A xs.length c:=by
 obtain ⟨A,c,he,_⟩:=R_reads h
 exact ⟨A,c,he⟩
theorem qh8 (h:d.R e w base ok v xs):∃ inner,w.ownsRow base e d.sz v xs.length inner:=by
 obtain ⟨_,inner,ho,_⟩:=h
 exact ⟨inner,ho⟩
theorem R_ne (h:d.R e w base ok v xs) {g t:Nat} {cells:Array Value} (hb:w.heap[g]? = some (.cells cells t (0,0))) (ht:e≠t):some g≠v.ownBlock:=KU.ne_block h.2 hb ht
end
def scalar {α:Type} (enc:α→Value) (h1:∀ x,(enc x).oneCell'=true):Kd α where
 sz:=1
 E:=[]
 K:=fun _ x cs=>cs=[enc x]
 M:=fun _ _ _ x cs=>cs=[enc x]
 K_len:=fun h=>by rw [h];rfl
 K_one:=fun h u hu=>by
  rw [h] at hu
  rw [List.mem_singleton.1 hu]
  exact h1 _
 K_below:=fun _ h=>h
 K_of_M:=fun h=>h
 M_mono:=fun _ h=>h
 M_bound:=fun h=>h
 M_move:=fun _ h=>h
 M_lower:=fun _ h=>h
def int (k:IntKind):Kd Int:=scalar (Value.int k) (fun _=>rfl)
def bool:Kd Bool:=scalar Value.bool (fun _=>rfl)
def string:Kd ByteArray:=scalar Value.string (fun _=>rfl)
def slice {α:Type} (e:Nat) (d:Kd α):Kd (List α) where
 sz:=1
 E:=e::d.E
 K:=fun w xs cs => ∃ A c,cs=[.slice A xs.length c]∧xs.length≤c∧d.C w A xs.length xs
 M:=fun w base ok xs cs => ∃ v,cs=[v]∧d.R e w base ok v xs
 K_len:=by
  rintro w x cs ⟨A,c,rfl,_⟩
  rfl
 K_one:=by
  rintro w x cs ⟨A,c,rfl,_⟩ u hu
  rw [List.mem_singleton.1 hu]
  rfl
 K_below:=by
  rintro w w1 x cs hb ⟨A,c,rfl,hl,hr⟩
  exact ⟨A,c,rfl,hl,C_below hr hb⟩
 K_of_M:=by
  rintro w base ok x cs ⟨v,rfl,h⟩
  obtain ⟨A,c,rfl,hl,hr⟩:=R_reads h
  exact ⟨A,c,rfl,hl,hr⟩
 M_mono:=by
  rintro w base ok ok' x cs hok ⟨v,rfl,h⟩
  exact ⟨v,rfl,R_mono h hok⟩
 M_bound:=by
  rintro w base ok x cs ⟨v,rfl,h⟩
  exact ⟨v,rfl,R_bound h⟩
 M_move:=by
  rintro w w1 base ok x cs hm ⟨v,rfl,h⟩
  exact ⟨v,rfl,R_move h hm⟩
 M_lower:=by
  rintro w base base' ok x cs hb ⟨v,rfl,h⟩
  exact ⟨v,rfl,R_lower h hb⟩
def pair {α β:Type} (a:Kd α) (b:Kd β):Kd (α × β) where
 sz:=a.sz+b.sz
 E:=a.E++b.E
 K:=fun w x cs => ∃ c0 c1,cs=c0++c1∧a.K w x.1 c0∧b.K w x.2 c1
 M:=fun w base ok x cs => ∃ c0 c1,cs=c0++c1∧a.M w base ok x.1 c0∧b.M w base ok x.2 c1
 K_len:=by
  rintro w x cs ⟨c0,c1,rfl,h0,h1⟩
  rw [List.length_append,a.K_len h0,b.K_len h1]
 K_one:=by
  rintro w x cs ⟨c0,c1,rfl,h0,h1⟩ u hu
  rcases List.mem_append.1 hu with hu|hu
  ·
   exact a.K_one h0 u hu
  exact b.K_one h1 u hu
 K_below:=by
  rintro w w1 x cs hb ⟨c0,c1,rfl,h0,h1⟩
  exact ⟨c0,c1,rfl,a.K_below hb h0,b.K_below hb h1⟩
 K_of_M:=by
  rintro w base ok x cs ⟨c0,c1,rfl,h0,h1⟩
  exact ⟨c0,c1,rfl,a.K_of_M h0,b.K_of_M h1⟩
 M_mono:=by
  rintro w base ok ok' x cs hok ⟨c0,c1,rfl,h0,h1⟩
  exact ⟨c0,c1,rfl,a.M_mono hok h0,b.M_mono hok h1⟩
 M_bound:=by
  rintro w base ok x cs ⟨c0,c1,rfl,h0,h1⟩
  refine ⟨c0,c1,rfl,a.M_mono ?_ (a.M_bound h0),b.M_mono ?_ (b.M_bound h1)⟩
  ·
   rintro k ⟨h2,h3,h4,q,hq,hc⟩
   exact ⟨h2,h3,h4,q,List.mem_append_left _ hq,hc⟩
  rintro k ⟨h2,h3,h4,q,hq,hc⟩
  exact ⟨h2,h3,h4,q,List.mem_append_right _ hq,hc⟩
 M_move:=by
  rintro w w1 base ok x cs hm ⟨c0,c1,rfl,h0,h1⟩
  exact ⟨c0,c1,rfl,a.M_move hm h0,b.M_move hm h1⟩
 M_lower:=by
  rintro w base base' ok x cs hb ⟨c0,c1,rfl,h0,h1⟩
  exact ⟨c0,c1,rfl,a.M_lower hb h0,b.M_lower hb h1⟩
def iso {α β:Type} (d:Kd α) (f:β→α):Kd β where
 sz:=d.sz
 E:=d.E
 K:=fun w x cs=>d.K w (f x) cs
 M:=fun w base ok x cs=>d.M w base ok (f x) cs
 K_len:=d.K_len
 K_one:=d.K_one
 K_below:=d.K_below
 K_of_M:=d.K_of_M
 M_mono:=d.M_mono
 M_bound:=d.M_bound
 M_move:=d.M_move
 M_lower:=d.M_lower
theorem C_get {α:Type} {d:Kd α} {w:World} {A:Option Addr} {n:Nat} {xs:List α} (h:d.C w A n xs) (z:α) (i:Int) (h0:0≤i) (h1:i<n) :
  ∃ ad c,A=some ad∧c.length=d.sz∧d.K w (xs.getD i.toNat z) c ∧ ∀ j u,c[j]? = some u→w.cell? (ad.add (i.toNat*d.sz+j))=some u:=GR.get_ h z i h0 h1
theorem qcc {α:Type} {d:Kd α} {e base:Nat} {ok okp:Nat→Prop} {W w1:World} {v v1:Value} {xs:List α} {p:α} {inner cs:List Value} (h0:∀ k,v.ownBlock=some k→ok k) (hr:Reps (d.M W base (fun k=>ok k∧some k≠v.ownBlock)) d.sz xs inner) (hp:d.M W base okp p cs) (hokp:∀ k,okp k→ok k∧some k≠v.ownBlock) (hfresh:∀ k,W.heap.size≤k→ok k)
  (hown:w1.ownsRow base e d.sz v1 (xs.length+1) (inner++cs)) (hg:W.grownBy w1 v.ownBlock) (hat:v1.ownBlock=v.ownBlock ∨ ∃ b,v1.ownBlock=some b∧W.heap.size≤b):d.R e w1 base ok v1 (xs++[p]):=by
 have hne:∀ k,some k≠v.ownBlock→k<W.heap.size→some k≠v1.ownBlock:=by
  intro k hk hlt
  rcases hat with hat|⟨b,hb,hle⟩
  ·
   rw [hat];exact hk
  rw [hb]
  intro he
  injection he with he
  omega
 have step:∀ {q:α} {c:List Value} {o:Nat→Prop},d.M W base o q c→(∀ k,o k→ok k∧some k≠v.ownBlock)→d.M w1 base (fun k=>ok k∧some k≠v1.ownBlock) q c:=by
  intro q c o hq ho
  have h1:=d.M_move (w1:=w1) (fun k hk=>hg.block k hk.2.2.1 (ho k hk.1).2) (d.M_bound hq)
  exact d.M_mono (fun k hk=>⟨(ho k hk.1).1,hne k (ho k hk.1).2 hk.2.2.1⟩) h1
 refine ⟨fun k hk => ?_,inner++cs,by rw [List.length_append,List.length_singleton];exact hown,?_⟩
 ·
  rcases hat with hat|⟨b,hb,hle⟩
  ·
   exact h0 k (hat ▸ hk)
  rw [hb] at hk
  injection hk with hk
  exact hfresh k (by omega)
 exact (hr.imp_ (fun _ _ hq=>step hq (fun _ hk=>hk))).snoc (step hp hokp) (d.K_len (d.K_of_M hp))
section
variable {P:Program} {ops:Array Oper} {rest:List Oper} {o:Oper} {a:Act} {Q:Exit→Act→World→Prop} {α:Type}
theorem R_append (d:Kd α) {w0 W:World} (base:Nat) (hgd:o.guard=none) (s x:Operand) (t e:TypeId) (z:Value) (bytes:Nat)
  (ho:o.op = .call { callee:=.builtin .append,args:=#[s,x],argTypes:=#[t,t] })
  (ht:P.underlying t=some (.slice e)) (hinfo:(P.info? e).map (fun i=>(i.zero,i.size,i.bytes))=some (some z,d.sz,bytes)) (hz:z.cells.size=d.sz) (hs0:0<d.sz) (hb0:0<bytes)
  (v:Value) (xs:List α) (p:α) (cs:List Value) (ok okp:Nat→Prop) (hs:a.eval s=v) (hx:a.eval x = .slice (some ⟨W.heap.size,0,none⟩) 1 1) (hp:d.M W base okp p cs) (hokp:∀ k,okp k→ok k∧some k≠v.ownBlock) (hfresh:∀ k,W.heap.size≤k→ok k)
  (HO:d.R e W base ok v xs) (HB:Below base w0 W) (hbase:base≤W.heap.size) (hl:(xs.length+1)*bytes≤140737488355328)
  (h:∀ v1 w1,d.R e w1 base ok v1 (xs++[p])→Below base w0 w1→W.grownBy w1 v.ownBlock→(v1.ownBlock=v.ownBlock ∨ ∃ b,v1.ownBlock=some b∧W.heap.size≤b)→wpList P ops Q rest (a.put o.dst v1) w1) :
  wpList P ops Q (o::rest) a (W.alloc (.cells cs.toArray e)):=by
 obtain ⟨h0,inner,hown,hr⟩:=HO
 refine Xs base hgd s x t e z d.sz bytes ho ht hinfo hz hs0 hb0 v xs.length inner cs hs hx (d.K_len (d.K_of_M hp)) (d.K_one (d.K_of_M hp)) hown HB hbase hl ?_
 intro v1 w1 hown1 hb1 hg1 qgV
 exact h v1 w1 (qcc h0 hr hp hokp hfresh hown1 hg1 qgV) hb1 hg1 qgV
end
section
variable {P:Program} {ops:Array Oper} {o:Oper} {a:Act} {Q:Exit→Act→World→Prop} {Kc:Act→World→Prop} {α:Type}
theorem R_append_step (d:Kd α) {w0 W:World} (base:Nat) (hw:Region.wanted o (yielded ops a.tmps)=true) (s x:Operand) (t e:TypeId) (z:Value) (bytes:Nat)
  (ho:o.op = .call { callee:=.builtin .append,args:=#[s,x],argTypes:=#[t,t] })
  (ht:P.underlying t=some (.slice e)) (hinfo:(P.info? e).map (fun i=>(i.zero,i.size,i.bytes))=some (some z,d.sz,bytes)) (hz:z.cells.size=d.sz) (hs0:0<d.sz) (hb0:0<bytes)
  (v:Value) (xs:List α) (p:α) (cs:List Value) (ok okp:Nat→Prop) (hs:a.eval s=v) (hx:a.eval x = .slice (some ⟨W.heap.size,0,none⟩) 1 1) (hp:d.M W base okp p cs) (hokp:∀ k,okp k→ok k∧some k≠v.ownBlock) (hfresh:∀ k,W.heap.size≤k→ok k)
  (HO:d.R e W base ok v xs) (HB:Below base w0 W) (hbase:base≤W.heap.size) (hl:(xs.length+1)*bytes≤140737488355328)
  (h:∀ v1 w1,d.R e w1 base ok v1 (xs++[p])→Below base w0 w1→W.grownBy w1 v.ownBlock→(v1.ownBlock=v.ownBlock ∨ ∃ b,v1.ownBlock=some b∧W.heap.size≤b)→Kc (a.put o.dst v1) w1) :
  if Region.wanted o (yielded ops a.tmps)=true then Oper.wp P o a (W.alloc (.cells cs.toArray e)) Kc Q else Kc (a.put o.dst undef) (W.alloc (.cells cs.toArray e)):=by
 obtain ⟨h0,inner,hown,hr⟩:=HO
 refine qaD base hw s x t e z d.sz bytes ho ht hinfo hz hs0 hb0 v xs.length inner cs hs hx (d.K_len (d.K_of_M hp)) (d.K_one (d.K_of_M hp)) hown HB hbase hl ?_
 intro v1 w1 hown1 hb1 hg1 qgV
 exact h v1 w1 (qcc h0 hr hp hokp hfresh hown1 hg1 qgV) hb1 hg1 qgV
end
theorem qf9 {α:Type} {enc:α→Value} (xs:List α):Reps (fun (x:α) (cs:List Value)=>cs=[enc x]) 1 xs (encs enc xs):=by
 refine ⟨by simp [encs],fun j p hj => ?_⟩
 obtain ⟨hl,hp⟩:=List.getElem?_eq_some_iff.1 hj
 have hl':j<(encs enc xs).length:=by rw [qa6];exact hl
 rw [Nat.mul_one,List.drop_eq_getElem_cons hl']
 simp [encs,hp]
theorem R_of_own {α:Type} {enc:α→Value} {h1:∀ x,(enc x).oneCell'=true} {e:Nat} {w:World} {base:Nat} {ok:Nat→Prop} {v:Value} {xs:List α} (ho:w.ownsRow base e 1 v xs.length (encs enc xs)) (hok:∀ k,v.ownBlock=some k→ok k):(scalar enc h1).R e w base ok v xs:=⟨hok,encs enc xs,ho,qf9 xs⟩
theorem qfZ {α:Type} {enc:α→Value} {h1:∀ x,(enc x).oneCell'=true} {e:Nat} {w:World} {base:Nat} {ok:Nat→Prop} {v:Value} {xs:List α} (h:(scalar enc h1).R e w base ok v xs):w.ownsRow base e 1 v xs.length (encs enc xs):=by
 obtain ⟨_,inner,ho,hr⟩:=h
 have:inner=encs enc xs:=by
  apply List.ext_getElem?
  intro j
  rcases Nat.lt_or_ge j xs.length with hj|hj
  ·
   have h2:=hr.2 j _ (List.getElem?_eq_getElem hj)
   have hl:j<inner.length:=by have:=hr.1;simp [scalar] at this;omega
   have h3:(inner.drop (j*1)).take 1=[enc xs[j]]:=h2
   rw [Nat.mul_one,List.drop_eq_getElem_cons hl] at h3
   have h4:inner[j]=enc xs[j]:=by
    have h5:=congrArg List.head? h3;rw [List.take_succ_cons] at h5
    exact Option.some.inj h5
   rw [List.getElem?_eq_getElem hl,h4]
   simp [encs,List.getElem?_eq_getElem hj]
  have h3:inner.length=xs.length:=by have:=hr.1;simp [scalar] at this;omega
  rw [List.getElem?_eq_none (by omega),List.getElem?_eq_none (by rw [qa6];omega)]
 rw [← this]
 exact ho
theorem C_of_reads {α:Type} {enc:α→Value} {d:α} {h1:∀ x,(enc x).oneCell'=true} {w:World} {A:Option Addr} {n:Nat} {xs:List α} (h:GC enc d w A n xs):(scalar enc h1).C w A n xs:=by
 refine ⟨h.1,h.2.1,fun hn => ?_⟩
 obtain ⟨ad,e,hc⟩:=h.2.2 hn
 refine ⟨ad,e,fun j p hj=>⟨[enc p],rfl,rfl,fun i u hu => ?_⟩⟩
 obtain ⟨hl,hp⟩:=List.getElem?_eq_some_iff.1 hj
 have h2:=hc j (by have:=h.1;omega)
 rw [List.getD_eq_getElem?_getD,hj] at h2
 cases i with
 | zero =>
  have:enc p=u:=by simpa using hu
  subst this
  simpa [scalar] using h2
 | succ i=>simp at hu
theorem reads_of_C {α:Type} {enc:α→Value} {d:α} {h1:∀ x,(enc x).oneCell'=true} {w:World} {A:Option Addr} {n:Nat} {xs:List α} (h:(scalar enc h1).C w A n xs):GC enc d w A n xs:=by
 refine ⟨h.1,h.2.1,fun hn => ?_⟩
 obtain ⟨ad,e,hc⟩:=h.2.2 hn
 refine ⟨ad,e,fun j hj => ?_⟩
 have hl:j<xs.length:=by have:=h.1;omega
 obtain ⟨c,_,hK,hcell⟩:=hc j _ (List.getElem?_eq_getElem hl)
 have hK':c=[enc xs[j]]:=hK
 subst hK'
 have:=hcell 0 _ rfl
 simpa [scalar,List.getD_eq_getElem?_getD,List.getElem?_eq_getElem hl] using this
end Kd
namespace Kd
section
variable {α β:Type} {d:Kd α} {d':Kd β} {e e':Nat} {w w1 W:World} {base b b':Nat} {ok ok' okv oku:Nat→Prop} {v u:Value} {xs:List α} {ys:List β}
theorem R_alloc (h:d.R e w base ok v xs) (o:Obj):d.R e (w.alloc o) base ok v xs:=R_below h (Q3 (Below.refl _ _) o)
theorem R_drew (h:d.R e w base ok v xs):d.R e w.drew base ok v xs:=R_below h (Yr (Below.refl _ _))
theorem R_drewN (h:d.R e w base ok v xs) (m:Nat):d.R e (w.drewN m) base ok v xs:=R_below h (Q1 (Below.refl _ _) m)
theorem C_alloc {A:Option Addr} {n:Nat} (h:d.C w A n xs) (o:Obj):d.C (w.alloc o) A n xs:=C_below h (Q3 (Below.refl _ _) o)
theorem C_drew {A:Option Addr} {n:Nat} (h:d.C w A n xs):d.C w.drew A n xs:=C_below h (Yr (Below.refl _ _))
theorem C_drewN {A:Option Addr} {n:Nat} (h:d.C w A n xs) (m:Nat):d.C (w.drewN m) A n xs:=C_below h (Q1 (Below.refl _ _) m)
theorem C_nil (d:Kd α) (w:World):d.C w none ([]:List α).length []:=⟨rfl,by simp,fun h=>absurd h (Nat.lt_irrefl 0)⟩
theorem R_reads' {A:Option Addr} {n c:Nat} (h:d.R e w base ok (.slice A n c) xs):n=xs.length∧n≤c∧d.C w A xs.length xs:=by
 obtain ⟨A',c',he,hl,hr⟩:=R_reads h
 injection he with h1 h2 h3
 subst h1
 exact ⟨h2,by omega,hr⟩
theorem R_lt (h:d.R e w base ok v xs):∀ k,v.ownBlock=some k→k<w.heap.size:=by
 obtain ⟨inner,ho⟩:=qh8 h
 exact qkY ho
theorem R_base (h:d.R e w base ok v xs):∀ k,v.ownBlock=some k→base≤k:=by
 obtain ⟨inner,ho⟩:=qh8 h
 exact qav ho
theorem R_form (h:d.R e w base ok v xs) (hp:0<xs.length):∃ g cap,v = .slice (some ⟨g,0,none⟩) xs.length cap∧base≤g∧g<w.heap.size ∧ ∃ cells,w.heap[g]? = some (.cells cells e (0,0)):=by
 obtain ⟨inner,ho⟩:=qh8 h
 obtain ⟨g,cap,he,hb,hl⟩:=ho.form hp
 obtain ⟨cells,hc⟩:=KX ho g (by rw [he];simp [Value.ownBlock])
 exact ⟨g,cap,he,hb,hl,cells,hc⟩
end
section
variable {w W:World} {A:Option Addr} {n:Nat}
theorem at_int {k:IntKind} {xs:List Int} (h:(Kd.int k).C w A n xs) (i:Int) (h0:0≤i) (h1:i<n):∃ ad,A=some ad∧w.cell? (ad.add i.toNat)=some (.int k (rd xs i)) :=
 GC.at_ (reads_of_C (enc:=Value.int k) (d:=(0:Int)) (h1:=fun _=>rfl) h) i h0 h1
theorem at_bool {xs:List Bool} (h:Kd.bool.C w A n xs) (i:Int) (h0:0≤i) (h1:i<n):∃ ad,A=some ad∧w.cell? (ad.add i.toNat)=some (.bool (rdOf false xs i)) :=
 GC.at_ (reads_of_C (enc:=Value.bool) (d:=false) (h1:=fun _=>rfl) h) i h0 h1
variable {α:Type} {enc:α→Value} {h1:∀ x,(enc x).oneCell'=true} {e base g cap:Nat} {ok:Nat→Prop} {xs:List α}
theorem qo6 (d:α) (h:(scalar enc h1).R e W base ok (.slice (some ⟨g,0,none⟩) xs.length cap) xs) (i:Int) (h0:0≤i) (hi:i<xs.length):W.cell? ⟨g,i.toNat,none⟩=some (enc (rdOf d xs i))∧W.frozen? ⟨g,i.toNat,none⟩=false:=qjl (qfZ h) i h0 hi
theorem qqP (h:(scalar enc h1).R e W base ok (.slice (some ⟨g,0,none⟩) xs.length cap) xs) (i:Int) (x:α):(scalar enc h1).R e (W.setCell ⟨g,i.toNat,none⟩ (enc x)) base ok (.slice (some ⟨g,0,none⟩) xs.length cap) (xs.set i.toNat x)∧W.grownBy (W.setCell ⟨g,i.toNat,none⟩ (enc x)) (some g):=by
 obtain ⟨ho,hg⟩:=qer (qfZ h) i x
 exact ⟨R_of_own (by rw [List.length_set];exact ho) h.1,hg⟩
end
section
variable {P:Program} {ops:Array Oper} {rest:List Oper} {o:Oper} {a:Act} {Q:Exit→Act→World→Prop}
theorem event_run {W w1:World} {v:Value} (hgd:o.guard=none) (hrun:(execOp a.eval o).run P W = .ok (.value v) w1) (h:wpList P ops Q rest (a.put o.dst v) w1):wpList P ops Q (o::rest) a W:=by
 refine wpList_plain hgd fun K hK => ?_
 unfold Oper.wp
 rw [hrun]
 exact hK _ _ h
variable {α:Type}
theorem R_lit (d:Kd α) {w0 W:World} (base e:Nat) (hgd:o.guard=none) {N:Tmp} (_hd:o.dst=some N) {xs:List α} {inner:List Value} {ok okp:Nat→Prop}
  (hrun:(execOp a.eval o).run P W = .ok (.value (.slice (some ⟨W.heap.size,0,none⟩) xs.length xs.length)) (W.alloc (.cells inner.toArray e)))
  (hrep:Reps (d.M W base okp) d.sz xs inner) (hok:∀ k,okp k→ok k) (hfresh:ok W.heap.size) (HB:Below base w0 W) (hbase:base≤W.heap.size) (hm:xs.length≤9223372036854775807)
  (h:∀ v1 w1,d.R e w1 base ok v1 xs→Below base w0 w1→W.grownBy w1 none→(∃ b,v1.ownBlock=some b∧W.heap.size≤b)→wpList P ops Q rest (a.put o.dst v1) w1):wpList P ops Q (o::rest) a W:=by
 refine event_run hgd hrun (h _ _ ⟨fun k hk => ?_,inner,?_,?_⟩ (HB.alloc hbase _) (World.grownBy_alloc W _ none) ⟨W.heap.size,by simp [Value.ownBlock],Nat.le_refl _⟩)
 ·
  have:W.heap.size=k:=by simpa [Value.ownBlock] using hk
  subst this
  exact hfresh
 ·
  have h2:=World.ownsRow_lit (base:=base) (e:=e) (size:=d.sz) W inner.toArray xs.length hbase (by simpa [maxLen] using hm) (by simpa using hrep.1)
  simpa using h2
 refine hrep.imp_ (fun p c hp=>d.M_mono (fun k hk=>⟨hok k hk.1,fun he => ?_⟩) (qlG (d.M_bound hp) (Q3 (Below.refl _ _) _)))
 have h3:k=W.heap.size:=by simpa [Value.ownBlock] using he
 have:=hk.2.2.1
 omega
theorem qjq {α:Type} {R:α→List Value→Prop} {z:Value} {size:Nat} {z0:α} (hz:z.cells.size=size) (hs:0<size) (h0:R z0 z.cells.toList) (m:Nat):Reps R size (List.replicate m z0) (madeCells z.cells (m*size)).toList:=by
 refine ⟨by simp [size_madeCells],fun j p hj => ?_⟩
 obtain ⟨hjl,hp⟩:=List.getElem?_eq_some_iff.1 hj
 have hjm:j<m:=by simpa using hjl
 have hp':z0=p:=by simpa using hp
 subst hp'
 have hle:j*size+size≤m*size:=by rw [← Nat.succ_mul];exact Nat.mul_le_mul_right _ hjm
 have:((madeCells z.cells (m*size)).toList.drop (j*size)).take size=z.cells.toList:=by
  apply List.ext_getElem
  ·
   simp [size_madeCells,hz]
   omega
  intro i h1 h2
  have hi:i<size:=by rw [Array.length_toList,hz] at h2;exact h2
  have hmod:(j*size+i) % size=i:=by
   rw [Nat.mul_comm,Nat.mul_add_mod]
   exact Nat.mod_eq_of_lt hi
  simp [madeCells,hz,hmod]
  rw [getElem!_pos z.cells i (by omega)]
 rw [this]
 exact h0
theorem R_make (d:Kd α) {w0 W:World} (base e:Nat) (hgd:o.guard=none) {N:Tmp} (hd:o.dst=some N) (t:TypeId) (x y:Operand) (ho:o.op = .makeSlice t x y) (n:Int) (hx:a.eval x = .int .i64 n) (hy:a.eval y = .int .i64 n)
  (ht:P.underlying t=some (.slice e)) (z:Value) (bytes:Nat) (hinfo:(P.info? e).map (fun i=>(i.zero,i.size,i.bytes))=some (some z,d.sz,bytes)) (hz:z.cells.size=d.sz) (hs0:0<d.sz) (hb0:0<bytes)
  (z0:α) {ok okp:Nat→Prop} (hzero:d.M W base okp z0 z.cells.toList) (hok:∀ k,okp k→ok k) (hfresh:ok W.heap.size) (h0:0≤n) (hl:n.toNat*bytes≤281474976710656) (HB:Below base w0 W) (hbase:base≤W.heap.size)
  (h:∀ v1 w1,d.R e w1 base ok v1 (List.replicate n.toNat z0)→Below base w0 w1→W.grownBy w1 none→(∃ b,v1.ownBlock=some b∧W.heap.size≤b)→wpList P ops Q rest (a.put o.dst v1) w1):wpList P ops Q (o::rest) a W:=by
 obtain ⟨m,rfl⟩:=Int.eq_ofNat_of_zero_le h0
 simp only [Int.toNat_natCast] at hl h
 obtain ⟨i0,hi,hzz⟩:=Option.map_eq_some_iff.1 hinfo
 simp only [Prod.mk.injEq] at hzz
 obtain ⟨hz0,hz1,hz2⟩:=hzz
 have hm:m≤281474976710656:=Nat.le_trans (Nat.le_mul_of_pos_right _ hb0) hl
 have hr:=run_make (P:=P) W t e i0 z ht hi hz0 .i64 .i64 (m:Int) (m:Int) (by omega) (by omega)
  (by
   have h3:((i0.bytes*m:Nat):Int)≤281474976710656:=by rw [hz2,Nat.mul_comm];omega
   rwa [Int.natCast_mul] at h3) (by omega)
 simp only [Int.toNat_natCast] at hr
 rw [hz1] at hr
 refine R_lit d base e hgd hd (xs:=List.replicate m z0) (inner:=(madeCells z.cells (m*d.sz)).toList) (okp:=okp) (ok:=ok) ?_ (qjq hz hs0 hzero m) hok hfresh HB hbase (by simp;omega) h
 simp [execOp,ho,hx,hy,hr]
end
end Kd
theorem qk0 {w:World} {base n m c size:Nat} {e:TypeId} {A:Option Addr} {xs:List Value} (h:w.ownsRow base e size (.slice A n c) n xs) (hm:m≤n):w.ownsRow base e size (.slice A m c) m (xs.take (m*size)):=by
 obtain ⟨h1,h2⟩:=h
 refine ⟨by rw [List.length_take,h1];exact Nat.min_eq_left (Nat.mul_le_mul_right _ hm),?_⟩
 rcases h2 with ⟨he,h0⟩|⟨g,cap,cur,he,hb,hh,hnc,hcm,hcs,ht⟩
 ·
  injection he with ha _ hc
  subst ha;subst hc
  exact .inl ⟨by rw [show m=0 by omega],by omega⟩
 injection he with ha _ hc
 subst ha;subst hc
 refine .inr ⟨g,c,cur,rfl,hb,hh,by omega,hcm,hcs,?_⟩
 rw [← ht,List.take_take,Nat.min_eq_left (Nat.mul_le_mul_right _ hm)]
section
variable {P:Program}
theorem qph (t e:TypeId) (kh:IntKind) {i:TypeInfo} (ht:P.underlying t=some (.slice e)) (hi:P.info? e=some i) (A:Option Addr) (n c:Nat) (j:Int) (h0:0≤j) (hm:j≤n) (hc:n≤c) :
  ∀ W:World,(Instr.slice t (.slice A n c) none (some (.int kh j)) none).run P W = .ok (.slice A j.toNat c) W:=by
 intro W
 have hel:P.elem t=e:=by simp [Program.elem,ht]
 have hu:P.underlying t=some (.slice (P.elem t)):=by rw [hel];exact ht
 have ha:(A.map fun x=>x.add 0)=A:=by cases A<;>simp [Addr.add]
 rw [run_slice_h W t A n c hu kh j h0 (by omega),hel]
 simp [sizeOf,typeInfo,hi,sliced,Result.andThen,ha]
end
def QRow (w:World) (base:Nat) (e:TypeId) (size:Nat) (v:Value) (n:Nat) (xs:List Value):Prop :=
  xs.length=n*size ∧
  ((n=0 ∧ ∃ A,v = .slice A 0 0 ∧ ∀ a,A=some a→base≤a.block ∧ ∃ cur,w.heap[a.block]? = some (.cells cur e (0,0))) ∨
   ∃ g off cap cur,v = .slice (some ⟨g,off*size,none⟩) n cap∧base≤g∧w.heap[g]? = some (.cells cur e (0,0))∧n≤cap∧off+cap≤maxLen∧cur.size=(off+cap)*size∧(cur.toList.drop (off*size)).take (n*size)=xs)
section
variable {w w1:World} {base n size:Nat} {e:TypeId} {v:Value} {xs:List Value}
theorem qlb (h:w.ownsRow base e size v n xs):QRow w base e size v n xs:=by
 obtain ⟨h1,h2⟩:=h
 refine ⟨h1,?_⟩
 rcases h2 with ⟨rfl,h0⟩|⟨g,cap,cur,rfl,hb,hh,hnc,hcm,hcs,ht⟩
 ·
  exact .inl ⟨h0,none,rfl,fun a ha=>by cases ha⟩
 exact .inr ⟨g,0,cap,cur,by rw [Nat.zero_mul],hb,hh,hnc,by rw [Nat.zero_add];exact hcm,by rw [Nat.zero_add];exact hcs,by rw [Nat.zero_mul,List.drop_zero];exact ht⟩
theorem W9 {g:Nat}:∀ (vs:List Value) (o:Nat) {w:World} (k:Nat),k≠g→(w.setCells g o vs).heap[k]? = w.heap[k]?
 | [],_,_,_,_=>rfl
 | v::r,o,w,k,hk=>by
  rw [World.setCells,W9 r (o+1) k hk]
  exact Below.heap_setCell w ⟨g,o,none⟩ v k hk
theorem Xf (g:Nat):∀ (vs:List Value) (o:Nat) (w:World),(w.setCells g o vs).os=w.os∧(w.setCells g o vs).tape=w.tape∧(w.setCells g o vs).output=w.output∧(w.setCells g o vs).heap.size=w.heap.size
 | [],_,_=>⟨rfl,rfl,rfl,rfl⟩
 | v::r,o,w=>by
  obtain ⟨h1,h2,h3,h4⟩:=Xf g r (o+1) (w.setCell ⟨g,o,none⟩ v)
  rw [World.setCells]
  exact ⟨h1,h2,h3,by rw [h4];simp [World.setCell]⟩
theorem qaC {g:Nat} {e:TypeId}:∀ (vs:List Value) (o:Nat) (w:World) (cur:Array Value),w.heap[g]? = some (.cells cur e (0,0))→o+vs.length≤cur.size →
  ∃ cur',(w.setCells g o vs).heap[g]? = some (.cells cur' e (0,0))∧cur'.size=cur.size∧cur'.toList=cur.toList.take o++vs++cur.toList.drop (o+vs.length)
 | [],o,w,cur,h,_=>⟨cur,h,rfl,by simp⟩
 | v::r,o,w,cur,h,hl=>by
  have h2:=qid h o v
  simp only [List.length_cons] at hl
  obtain ⟨cur',h3,h4,h5⟩:=qaC r (o+1) (w.setCell ⟨g,o,none⟩ v) _ h2 (by simp;omega)
  refine ⟨cur',h3,by rw [h4];simp,?_⟩
  rw [h5,Array.toList_setIfInBounds]
  have ho:o<cur.toList.length:=by rw [Array.length_toList];omega
  rw [List.take_set,List.drop_set_of_lt (by omega)]
  simp only [List.length_cons]
  rw [show o+1+r.length=o+(r.length+1) by omega]
  congr 1
  rw [List.take_succ_eq_append_getElem ho,List.set_append_right _ _ (by rw [List.length_take];omega)]
  have ho':o<cur.size:=by omega
  simp [Nat.min_eq_left (Nat.le_of_lt ho')]
end
namespace Kd
theorem qjr {α:Type} {R:α→List Value→Prop} {size m:Nat} {ps:List α} {cs:List Value} (h:Reps R size ps cs) (hm:m≤ps.length):Reps R size (ps.take m) (cs.take (m*size)):=by
 refine ⟨by rw [List.length_take,List.length_take,h.1,Nat.min_eq_left hm,Nat.min_eq_left (Nat.mul_le_mul_right _ hm)],fun j p hj => ?_⟩
 rw [List.getElem?_take] at hj
 split at hj
 ·
  rename_i hjm
  have:=h.2 j p hj
  have hle:j*size+size≤m*size:=by rw [← Nat.succ_mul];exact Nat.mul_le_mul_right _ hjm
  rw [List.drop_take,List.take_take,Nat.min_eq_left (by omega)]
  exact this
 cases hj
theorem R_take {α:Type} {d:Kd α} {e m n c:Nat} {w:World} {base:Nat} {ok:Nat→Prop} {A:Option Addr} {xs:List α} (h:d.R e w base ok (.slice A n c) xs) (hm:m≤xs.length):d.R e w base ok (.slice A m c) (xs.take m):=by
 obtain ⟨h0,inner,ho,hr⟩:=h
 have hn:n=xs.length:=by
  obtain ⟨A',c',he⟩:=qjm ho
  injection he
 subst hn
 have hb:∀ x y:Nat,(Value.slice A x c).ownBlock=(Value.slice A y c).ownBlock:=by
  intro x y
  cases A<;>rfl
 refine ⟨fun k hk=>h0 k (by rw [hb _ m];exact hk),inner.take (m*d.sz),?_,?_⟩
 ·
  rw [List.length_take,Nat.min_eq_left hm]
  exact qk0 ho hm
 rw [hb m xs.length]
 exact qjr hr hm
def Q {α:Type} (d:Kd α) (e:Nat) (w:World) (base:Nat) (ok:Nat→Prop) (v:Value) (xs:List α):Prop :=
 (∀ k,v.ownBlock=some k→ok k) ∧ ∃ inner,QRow w base e d.sz v xs.length inner∧Reps (d.M w base (fun k=>ok k∧some k≠v.ownBlock)) d.sz xs inner
section
variable {α:Type} {d:Kd α} {e:Nat} {w w1 W:World} {base:Nat} {ok ok':Nat→Prop} {v:Value} {xs:List α}
theorem qo5 (h:d.R e w base ok v xs):d.Q e w base ok v xs:=by
 obtain ⟨h0,inner,ho,hr⟩:=h
 exact ⟨h0,inner,qlb ho,hr⟩
theorem Q_nil (d:Kd α) (e:Nat) (w:World) (base:Nat) (ok:Nat→Prop):d.Q e w base ok (.slice none 0 0) []:=qo5 (R_nil d e w base ok)
end
end Kd
namespace Kd
section
variable {α:Type} {d:Kd α} {e e':Nat} {w w1 W:World} {base:Nat} {ok:Nat→Prop} {u v:Value} {xs:List α}
theorem R_typed (h:d.R e w base ok v xs):∀ k,v.ownBlock=some k → ∃ cells,w.heap[k]? = some (.cells cells e (0,0)):=by
 obtain ⟨inner,ho⟩:=qh8 h
 exact fun k hk=>KX ho k hk
theorem R_apart' (h:d.R e W base ok u xs) (hty:∀ k,v.ownBlock=some k → ∃ cells,W.heap[k]? = some (.cells cells e' (0,0))) (ht:∀ q,q∈e::d.E→q≠e'):d.R e W base (fun k=>ok k∧some k≠v.ownBlock) u xs:=by
 refine R_mono (R_bound h) (fun k hk=>⟨hk.1,fun he => ?_⟩)
 obtain ⟨_,_,_,q,hq,cells,hc⟩:=hk
 obtain ⟨cells',hc'⟩:=hty k he.symm
 rw [hc] at hc'
 injection hc' with hc'
 injection hc' with _ hc'
 exact ht q hq hc'
theorem R_elder' (hu:d.R e W base ok u xs) (hbase:∀ k,v.ownBlock=some k→W.heap.size≤k) (hb:Below W.heap.size W w1):d.R e w1 base (fun k=>ok k∧some k≠v.ownBlock) u xs :=
 R_mono (R_move (R_bound hu) (fun k hk=>hb.block k hk.2.2.1)) (fun k hk=>⟨hk.1,fun he=>by have:=hbase k he.symm;have:=hk.2.2.1;omega⟩)
theorem R_new' (h:d.R e w1 W.heap.size ok v xs) (hlt:∀ k,u.ownBlock=some k→k<W.heap.size):d.R e w1 W.heap.size (fun k=>ok k∧some k≠u.ownBlock) v xs :=
 R_mono (R_bound h) (fun k hk=>⟨hk.1,fun he=>by have:=hlt k he.symm;have:=hk.2.1;omega⟩)
theorem fresh' (hlt:∀ k,u.ownBlock=some k→k<W.heap.size):∀ k,W.heap.size≤k→some k≠u.ownBlock:=fun k hk he=>by have:=hlt k he.symm;omega
end
end Kd
theorem qaB {α:Type} (a seg:List α) (o:Nat) (h:o+seg.length≤a.length) (q:Nat) :
  (a.take o++seg++a.drop (o+seg.length))[q]? = if q<o then a[q]? else if q<o+seg.length then seg[q-o]? else a[q]?:=by
 have hl:(a.take o).length=o:=by rw [List.length_take];omega
 rw [List.append_assoc]
 by_cases h1:q<o
 ·
  rw [if_pos h1,List.getElem?_append_left (by omega),List.getElem?_take,if_pos h1]
 rw [if_neg h1,List.getElem?_append_right (by omega),hl]
 by_cases h2:q<o+seg.length
 ·
  rw [if_pos h2,List.getElem?_append_left (by omega)]
 rw [if_neg h2,List.getElem?_append_right (by omega),List.getElem?_drop]
 congr 1
 omega
namespace Kd
section
variable {α:Type} {d:Kd α} {e base g n cap:Nat} {ok okp:Nat→Prop} {W:World} {xs:List α}
theorem R_elem (h:d.R e W base ok (.slice (some ⟨g,0,none⟩) n cap) xs) (z:α) (i:Int) (h0:0≤i) (h1:i<n) :
  ∃ c,c.length=d.sz∧d.M W base (fun k=>ok k∧k≠g) (xs.getD i.toNat z) c∧(∀ j u,c[j]? = some u→W.cell? ⟨g,i.toNat*d.sz+j,none⟩=some u) ∧ ∀ j,W.frozen? ⟨g,i.toNat*d.sz+j,none⟩=false:=by
 obtain ⟨hn,hnc,hC⟩:=R_reads' h
 obtain ⟨_,inner,ho,hr⟩:=h
 have hil:i.toNat<xs.length:=by omega
 have hseg:i.toNat*d.sz+d.sz≤inner.length:=by rw [hr.1,← Nat.succ_mul];exact Nat.mul_le_mul_right _ hil
 have hM:=hr.2 i.toNat _ (List.getElem?_eq_getElem hil)
 refine ⟨(inner.drop (i.toNat*d.sz)).take d.sz,by rw [List.length_take,List.length_drop];omega,?_,fun j u hu => ?_,fun j => ?_⟩
 ·
  rw [List.getD_eq_getElem?_getD,List.getElem?_eq_getElem hil]
  exact d.M_mono (fun k hk=>⟨hk.1,fun he=>hk.2 (by rw [he];simp [Value.ownBlock])⟩) hM
 ·
  rw [List.getElem?_take] at hu
  split at hu
  ·
   rw [List.getElem?_drop] at hu
   have:=ho.cells (g:=g) (by simp [Value.ownBlock]) _ u hu
   rwa [KV] at this
  cases hu
 obtain ⟨cells,hc⟩:=KX ho g (by simp [Value.ownBlock])
 exact Q9 hc _
theorem qqQ (h:d.R e W base ok (.slice (some ⟨g,0,none⟩) n cap) xs) (i:Int) (h0:0≤i) (h1:i<n) {c seg:List Value} {j:Nat} (hcl:c.length=d.sz) (hcc:∀ j u,c[j]? = some u→W.cell? ⟨g,i.toNat*d.sz+j,none⟩=some u)
  (hj:j+seg.length≤d.sz) {x':α} (hM:d.M W base okp x' (c.take j++seg++c.drop (j+seg.length))) (hokp:∀ k,okp k→ok k∧k≠g) :
  d.R e (W.setCells g (i.toNat*d.sz+j) seg) base ok (.slice (some ⟨g,0,none⟩) n cap) (xs.set i.toNat x')∧W.grownBy (W.setCells g (i.toNat*d.sz+j) seg) (some g):=by
 obtain ⟨hn,hnc,_⟩:=R_reads' h
 obtain ⟨hok,inner,ho,hr⟩:=h
 have hil:i.toNat<xs.length:=by omega
 have hseg:i.toNat*d.sz+d.sz≤inner.length:=by rw [hr.1,← Nat.succ_mul];exact Nat.mul_le_mul_right _ hil
 have hin:inner.length=n*d.sz:=by rw [hr.1,hn]
 obtain ⟨ho1,ho2⟩:=ho
 rcases ho2 with ⟨hv,_⟩|⟨g',cap',cur,hv,hb,hh,hnc',hcm,hcs,ht⟩
 ·
  cases hv
 injection hv with ha _ hc
 injection ha with ha
 injection ha with hg
 subst hg;subst hc
 have hfit:i.toNat*d.sz+j+seg.length≤cur.size:=by
  have:n*d.sz≤cap*d.sz:=Nat.mul_le_mul_right _ hnc
  omega
 obtain ⟨cur',h3,h4,h5⟩:=qaC seg (i.toNat*d.sz+j) W cur hh hfit
 obtain ⟨s1,s2,s3,s4⟩:=Xf g seg (i.toNat*d.sz+j) W
 have hfar:∀ k,k≠g→(W.setCells g (i.toNat*d.sz+j) seg).heap[k]? = W.heap[k]?:=fun k hk=>W9 seg _ k hk
 have hcin:∀ q,q<d.sz→c[q]? = inner[i.toNat*d.sz+q]?:=by
  intro q hq
  have hq':q<c.length:=by omega
  have h6:=hcc q _ (List.getElem?_eq_getElem hq')
  rw [cell_of_row W g _ cur e (0,0) hh] at h6
  rw [List.getElem?_eq_getElem hq',← h6,← ht,List.getElem?_take,if_pos (by rw [← hn];omega),Array.getElem?_toList]
 refine ⟨⟨hok,inner.take (i.toNat*d.sz+j)++seg++inner.drop (i.toNat*d.sz+j+seg.length),⟨?_,.inr ⟨g,cap,cur',by rw [List.length_set,hn],hb,h3,by rw [List.length_set,← hn];exact hnc,hcm,by rw [h4,hcs],?_⟩⟩,?_⟩,
  ⟨s1,s2,s3,by rw [s4];exact Nat.le_refl _,fun k _ hk=>hfar k (fun he=>hk (by rw [he]))⟩⟩
 ·
  rw [List.length_set]
  simp only [List.length_append,List.length_take,List.length_drop]
  rw [hr.1] at hseg ⊢
  omega
 ·
  rw [List.length_set,← hn]
  apply List.ext_getElem?
  intro q
  rw [List.getElem?_take,h5]
  rw [qaB cur.toList seg (i.toNat*d.sz+j) (by rw [Array.length_toList];omega) q,qaB inner seg (i.toNat*d.sz+j) (by omega) q]
  have hcur:∀ q,q<n*d.sz→cur.toList[q]? = inner[q]?:=by
   intro q hq
   rw [← ht,List.getElem?_take,if_pos (by rw [← hn];exact hq)]
  by_cases hq:q<n*d.sz
  ·
   rw [if_pos hq,hcur q hq]
  rw [if_neg hq,if_neg (by omega),if_neg (by omega),List.getElem?_eq_none (by omega)]
 refine ⟨?_,fun m p hm => ?_⟩
 ·
  rw [List.length_set]
  simp only [List.length_append,List.length_take,List.length_drop]
  rw [hr.1] at hseg ⊢
  omega
 have hml:m<xs.length:=by
  have:=(List.getElem?_eq_some_iff.1 hm).1
  rwa [List.length_set] at this
 have hmfit:m*d.sz+d.sz≤inner.length:=by rw [hr.1,← Nat.succ_mul];exact Nat.mul_le_mul_right _ hml
 have hgo:some g=(Value.slice (some ⟨g,0,none⟩) n cap).ownBlock:=by simp [Value.ownBlock]
 by_cases hmi:m=i.toNat
 ·
  subst hmi
  rw [List.getElem?_set_self (by omega)] at hm
  injection hm with hm
  subst hm
  have hcells:((inner.take (i.toNat*d.sz+j)++seg++inner.drop (i.toNat*d.sz+j+seg.length)).drop (i.toNat*d.sz)).take d.sz=c.take j++seg++c.drop (j+seg.length):=by
   apply List.ext_getElem?
   intro q
   rw [List.getElem?_take,List.getElem?_drop,qaB inner seg _ (by omega),qaB c seg j (by omega) q]
   by_cases hq:q<d.sz
   ·
    rw [if_pos hq,hcin q hq]
    by_cases hq1:q<j
    ·
     rw [if_pos (by omega),if_pos hq1]
    rw [if_neg (by omega),if_neg hq1]
    by_cases hq2:q<j+seg.length
    ·
     rw [if_pos (by omega),if_pos hq2]
     congr 1
     omega
    rw [if_neg (by omega),if_neg hq2]
   rw [if_neg hq,if_neg (by omega),if_neg (by omega),List.getElem?_eq_none (by omega)]
  rw [hcells]
  refine d.M_mono (fun k hk => ?_) (d.M_move (w1:=W.setCells g (i.toNat*d.sz+j) seg) (fun k hk=>hfar k (hokp k hk).2) hM)
  exact ⟨(hokp k hk).1,fun he=>(hokp k hk).2 (by rw [← hgo] at he;injection he)⟩
 rw [List.getElem?_set_ne (by omega)] at hm
 have hold:=hr.2 m p hm
 have hcells:((inner.take (i.toNat*d.sz+j)++seg++inner.drop (i.toNat*d.sz+j+seg.length)).drop (m*d.sz)).take d.sz=(inner.drop (m*d.sz)).take d.sz:=by
  apply List.ext_getElem?
  intro q
  rw [List.getElem?_take,List.getElem?_take,List.getElem?_drop,List.getElem?_drop,qaB inner seg _ (by omega)]
  by_cases hq:q<d.sz
  ·
   rw [if_pos hq,if_pos hq]
   rcases Nat.lt_or_gt_of_ne hmi with hlt|hgt
   ·
    have:m*d.sz+d.sz≤i.toNat*d.sz:=by rw [← Nat.succ_mul];exact Nat.mul_le_mul_right _ hlt
    rw [if_pos (by omega)]
   have:i.toNat*d.sz+d.sz≤m*d.sz:=by rw [← Nat.succ_mul];exact Nat.mul_le_mul_right _ hgt
   rw [if_neg (by omega),if_neg (by omega)]
  rw [if_neg hq,if_neg hq]
 rw [hcells]
 refine d.M_move (fun k hk=>hfar k (fun he=>hk.2 (by rw [he];exact hgo))) hold
end
end Kd
namespace Kd
def qri {α:Type} (d:Kd α) (w0:World):Kd α where
 sz:=d.sz
 E:=[]
 K:=fun _ x cs=>d.K w0 x cs
 M:=fun _ _ _ x cs=>d.K w0 x cs
 K_len:=d.K_len
 K_one:=d.K_one
 K_below:=fun _ h=>h
 K_of_M:=fun h=>h
 M_mono:=fun _ h=>h
 M_bound:=fun h=>h
 M_move:=fun _ h=>h
 M_lower:=fun _ h=>h
def or_ {α:Type} (a b:Kd α) (h:b.sz=a.sz):Kd α where
 sz:=a.sz
 E:=a.E++b.E
 K:=fun w x cs=>a.K w x cs∨b.K w x cs
 M:=fun w base ok x cs=>a.M w base ok x cs∨b.M w base ok x cs
 K_len:=fun hk=>hk.elim a.K_len (fun hk=>(b.K_len hk).trans h)
 K_one:=fun hk=>hk.elim a.K_one b.K_one
 K_below:=fun hb hk=>hk.imp (a.K_below hb) (b.K_below hb)
 K_of_M:=fun hk=>hk.imp a.K_of_M b.K_of_M
 M_mono:=fun hok hk=>hk.imp (a.M_mono hok) (b.M_mono hok)
 M_bound:=fun hk=>hk.imp
  (fun hk=>a.M_mono (fun _ ⟨h1,h2,h3,q,hq,hc⟩=>⟨h1,h2,h3,q,List.mem_append_left _ hq,hc⟩) (a.M_bound hk))
  (fun hk=>b.M_mono (fun _ ⟨h1,h2,h3,q,hq,hc⟩=>⟨h1,h2,h3,q,List.mem_append_right _ hq,hc⟩) (b.M_bound hk))
 M_move:=fun hm hk=>hk.imp (a.M_move hm) (b.M_move hm)
 M_lower:=fun hb hk=>hk.imp (a.M_lower hb) (b.M_lower hb)
def mix {α:Type} (e:Nat) (d dm:Kd α) (w0:World):Kd (List α):=or_ (qri (slice e d) w0) (slice e dm) rfl
end Kd
theorem qc7 {P:Program} {w:World} {g o:Nat} {e:TypeId} {cur:Array Value} (t:TypeId) (u:Value) (seg:List Value) (hh:w.heap[g]? = some (.cells cur e (0,0))) (hu:u.cells.toList=seg) (ht:(P.info? t).map (·.size)=some seg.length)
  (hfit:o+seg.length≤cur.size) (h1:∀ q∈seg,q.oneCell'=true):(Instr.storeAt t (.pointer (some ⟨g,o,none⟩)) u).run P w = .ok () (w.setCells g o seg):=by
 obtain ⟨i,hi,hsz⟩:=Option.map_eq_some_iff.1 ht
 have hc:u.cells.size=i.size:=by rw [hsz,← hu,Array.length_toList]
 have hst:=run_storeCells_cells (P:=P) g o seg 0 w (fun j hj=>by rw [cell_of_row w g _ cur e (0,0) hh];simp;omega) (fun j _=>Q9 hh _) h1
 simp only [Nat.add_zero] at hst
 simp [Instr.storeAt,Instr.sureAddr,storeVar,sizeOf,typeInfo,hi,hc,hu,hst]
theorem qrj {P:Program} {ops:Array Oper} {rest:List Oper} {o:Oper} {a:Act} {Q:Exit→Act→World→Prop} {W:World} (op:Op) (_ho:o.op=op) (h:wpList P ops Q (o::rest) a W):wpList P ops Q (o::rest) a W:=h
namespace Kd
section
variable {P:Program} {ops:Array Oper} {rest:List Oper} {o:Oper} {a:Act} {Q:Exit→Act→World→Prop} {α:Type}
theorem R_store (d:Kd α) {w0 W:World} (base:Nat) (hN:o.dst=none) (hgd:o.guard=none) (t:TypeId) (p x:Operand) (ho:o.op = .store t p x) (e:TypeId) {g n cap o':Nat} (i:Int) (j:Nat) (xs:List α) (x':α) (u:Value) (seg c:List Value) (ok okp:Nat→Prop)
  (haddr:a.eval p = .pointer (some ⟨g,o',none⟩)) (hoff:o'=i.toNat*d.sz+j) (hx:a.eval x=u) (hu:u.cells.toList=seg) (ht:(P.info? t).map (·.size)=some seg.length) (h1:∀ q∈seg,q.oneCell'=true)
  (HO:d.R e W base ok (.slice (some ⟨g,0,none⟩) n cap) xs) (h0:0≤i) (hi:i<n) (hcl:c.length=d.sz) (hcc:∀ j u,c[j]? = some u→W.cell? ⟨g,i.toNat*d.sz+j,none⟩=some u)
  (hj:j+seg.length≤d.sz) (hM:d.M W base okp x' (c.take j++seg++c.drop (j+seg.length))) (hokp:∀ k,okp k→ok k∧k≠g) (HB:Below base w0 W)
  (h:∀ w1,d.R e w1 base ok (.slice (some ⟨g,0,none⟩) n cap) (xs.set i.toNat x')→Below base w0 w1→W.grownBy w1 (some g)→wpList P ops Q rest a w1):wpList P ops Q (o::rest) a W:=by
 subst hoff
 obtain ⟨hrow,hg⟩:=qqQ HO i h0 hi hcl hcc hj hM hokp
 have hbg:base≤g:=R_base HO g (by simp [Value.ownBlock])
 have hnx:n=xs.length:=(R_reads' HO).1
 obtain ⟨_,inner,hown,hr⟩:=HO
 have hil:i.toNat<n:=by omega
 have hB:Below base w0 (W.setCells g (i.toNat*d.sz+j) seg):=HB.trans ⟨hg.os,hg.tape,hg.output,hg.size,fun k hk=>by
  have hlt:k<W.heap.size∨W.heap.size≤k:=Nat.lt_or_ge _ _
  rcases hlt with hlt|hge
  ·
   exact hg.block k hlt (fun he=>by injection he with he;omega)
  exact W9 seg _ k (by omega)⟩
 refine wpList_plain hgd fun K hK => ?_
 have hrun:(Instr.storeAt t (.pointer (some ⟨g,i.toNat*d.sz+j,none⟩)) u).run P W = .ok () (W.setCells g (i.toNat*d.sz+j) seg):=by
  rcases hown.2 with ⟨hv,_⟩|⟨g',cap',cur,hv,hb,hh,hnc,hcm,hcs,_⟩
  ·
   cases hv
  injection hv with ha _ hc
  injection ha with ha
  injection ha with hg'
  subst hg';subst hc
  refine qc7 t u seg hh hu ht ?_ h1
  have h2:i.toNat*d.sz+d.sz≤n*d.sz:=by rw [← Nat.succ_mul];exact Nat.mul_le_mul_right _ hil
  have h3:n*d.sz≤cap*d.sz:=Nat.mul_le_mul_right _ (by omega)
  omega
 unfold Oper.wp execOp
 simp only [ho,haddr,hx,Sem.run_bind,Sem.run_pure,Result.andThen_ok,hrun]
 show K (a.put o.dst undef) _
 rw [hN]
 exact hK a _ (h _ hrow hB hg)
end
end Kd
theorem add_add (a:Addr) (i j:Nat):(a.add i).add j=a.add (i+j):=by
 unfold Addr.add
 by_cases h1:i=0<;>by_cases h2:j=0<;>simp [h1,h2,Nat.add_assoc]
theorem Qf {w W:World} (h:Below w.heap.size w W):w.heap.size≤W.heap.size:=h.size
theorem Qm {w W w2:World} (h:Below w.heap.size w W) (k:Below W.heap.size W w2):Below w.heap.size w w2:=qgK h h.size k
theorem Q5 {w W:World} {g j:Nat} {v:Value} (h:Below w.heap.size w W) (hg:w.heap.size≤g):Below w.heap.size w (W.setCell ⟨g,j,none⟩ v):=h.setCell hg _
theorem qp8 {w W:World} {g:Nat} (h:qlF w W g none) {a:Addr} {v:Value} (hc:w.cell? a=some v) (hne:a.block≠g):W.cell? a=some v:=by
 have:=h.2 a.block (World.block_lt_of_cell? w a hc) hne (by simp)
 simpa [World.cell?,this] using hc
theorem Qg (a:Addr) (i:Nat):(a.add i).block=a.block:=by unfold Addr.add;split<;>rfl
theorem Qi {W:World} {p a:Addr} (h:a.block≠p.block) (u:Value):(W.setCell p u).cell? a=W.cell? a:=by
 have:=Below.heap_setCell W p u a.block h
 simp [World.cell?,this]
theorem Qu {w:World} {g:Nat} {t:TypeId} {cs cs':Array Value} (h:w.heap[g]? = some (.cells cs t (0,0))) (i:Nat) (u:Value) (e:cs.setIfInBounds i u=cs'):(w.setCell ⟨g,i,none⟩ u).heap[g]? = some (.cells cs' t (0,0)):=e ▸ qid h i u
theorem Q6 {base:Nat} {w W:World} (h:Below base w W):Below base w W.drew:=h.drew
namespace Kd
section
variable {α:Type} {d:Kd α} {e base g:Nat} {ok:Nat→Prop} {w w1:World} {v:Value} {xs:List α} {o:Obj}
theorem freshB (hb:w.heap[g]? = some o):∀ k,w.heap.size≤k→k≠g:=fun k hk=>by have:=QL hb;omega
end
end Kd
section
variable {P:Program} {ops:Array Oper} {rest:List Oper} {o:Oper} {a:Act} {Q:Exit→Act→World→Prop}
theorem Yw {W:World} (hgd:o.guard=none) {N:Tmp} (_hd:o.dst=some N) {cs:Array Value} {t:TypeId}
  (hrun:(execOp a.eval o).run P W = .ok (.value (.pointer (some ⟨W.heap.size,0,none⟩))) (W.alloc (.cells cs t (0,0))))
  (h:∀ g,g=W.heap.size → ∀ w1,w1.heap[g]? = some (.cells cs t (0,0))→Below W.heap.size W w1→wpList P ops Q rest (a.put o.dst (.pointer (some ⟨g,0,none⟩))) w1):wpList P ops Q (o::rest) a W :=
 Kd.event_run hgd hrun (h _ rfl _ (OS W _) (Q3 (Below.refl _ _) _))
end
namespace Kd
section
variable {α:Type} {enc:α→Value} {h1:∀ x,(enc x).oneCell'=true} {e base g n cap:Nat} {ok:Nat→Prop} {W:World} {xs:List α}
theorem R_celln (d:α) (h:(scalar enc h1).R e W base ok (.slice (some ⟨g,0,none⟩) n cap) xs) (i:Int) (h0:0≤i) (hi:i<n):W.cell? ⟨g,i.toNat,none⟩=some (enc (rdOf d xs i))∧W.frozen? ⟨g,i.toNat,none⟩=false:=by
 obtain ⟨rfl,_⟩:=R_reads' h
 exact qo6 d h i h0 hi
end
end Kd
section
variable {P:Program} {ops:Array Oper} {rest:List Oper} {o:Oper} {a:Act} {Q:Exit→Act→World→Prop}
theorem qge {W w1:World} (hgd:o.guard=none) {t:TypeId} {p:Tmp} {v:Operand} (_ho:o.op = .store t (.tmp p) v) (hN:o.dst=none)
  (hrun:(execOp a.eval o).run P W = .ok .skip w1) (h:∀ w',w'=w1→wpList P ops Q rest a w'):wpList P ops Q (o::rest) a W:=by
 refine wpList_plain hgd fun K hK => ?_
 unfold Oper.wp
 rw [hrun]
 show K (a.put o.dst undef) w1
 rw [hN]
 exact hK _ _ (h _ rfl)
end
namespace Kd
section
variable {α:Type} {enc:α→Value} {h1:∀ x,(enc x).oneCell'=true} {e base g n cap:Nat} {ok:Nat→Prop} {W:World} {xs:List α}
theorem R_putg (h:(scalar enc h1).R e W base ok (.slice (some ⟨g,0,none⟩) n cap) xs) (i:Int) (x:α):(scalar enc h1).R e (W.setCell ⟨g,i.toNat,none⟩ (enc x)) base ok (.slice (some ⟨g,0,none⟩) n cap) (xs.set i.toNat x)∧W.grownBy (W.setCell ⟨g,i.toNat,none⟩ (enc x)) (some g):=by
 obtain ⟨rfl,_⟩:=R_reads' h
 exact qqP h i x
end
end Kd
section
variable {P:Program} {ops:Array Oper} {rest:List Oper} {o:Oper} {a:Act} {Q:Exit→Act→World→Prop} {W:World}
theorem QW {N:Tmp} (_hN:o.dst=some N) (h:wpList P ops Q (o::rest) a W):wpList P ops Q (o::rest) a W:=h
theorem qgU {t:TypeId} {p:Tmp} {v:Operand} (_ho:o.op = .store t (.tmp p) v) (h:wpList P ops Q (o::rest) a W):wpList P ops Q (o::rest) a W:=h
end
section
variable {P:Program} {ops:Array Oper} {o:Oper} {a:Act} {Q:Exit→Act→World→Prop} {Kc:Act→World→Prop}
theorem qgS {W w1:World} {v:Value} (hw:Region.wanted o (yielded ops a.tmps)=true) (hrun:(execOp a.eval o).run P W = .ok (.value v) w1) (h:Kc (a.put o.dst v) w1):if Region.wanted o (yielded ops a.tmps)=true then Oper.wp P o a W Kc Q else Kc (a.put o.dst undef) W:=by
 rw [if_pos hw]
 unfold Oper.wp
 rw [hrun]
 exact h
theorem XH {W:World} (hw:Region.wanted o (yielded ops a.tmps)=true) {N:Tmp} (_hd:o.dst=some N) {cs:Array Value} {t:TypeId}
  (hrun:(execOp a.eval o).run P W = .ok (.value (.pointer (some ⟨W.heap.size,0,none⟩))) (W.alloc (.cells cs t (0,0))))
  (h:∀ g,g=W.heap.size → ∀ w1,w1.heap[g]? = some (.cells cs t (0,0))→Below W.heap.size W w1→Kc (a.put o.dst (.pointer (some ⟨g,0,none⟩))) w1):if Region.wanted o (yielded ops a.tmps)=true then Oper.wp P o a W Kc Q else Kc (a.put o.dst undef) W :=
 qgS hw hrun (h _ rfl _ (OS W _) (Q3 (Below.refl _ _) _))
end
inductive Vals (P:Program) (tmps:Array Value) (w:World):List ResultVar→List Value→Prop where
 | nil:Vals P tmps w [] []
 | tmp {u:Tmp} {rs:List ResultVar} {vs:List Value} (h:Vals P tmps w rs vs):Vals P tmps w (.tmp u::rs) (tmps.getD u undef::vs)
 | cell {p:Tmp} {ty:TypeId} {rs:List ResultVar} {vs:List Value} (g:Nat) (t:TypeId) (cs:Array Value) (fr:Nat × Nat) (d:TypeDesc)
   (hp:tmps.getD p undef = .pointer (some ⟨g,0,none⟩)) (hg:w.heap[g]? = some (.cells cs t fr))
   (hu:P.underlying ty=some d) (hd:(match d with | .struct _ | .array _ _=>true|_=>false)=true) (hi:(P.info? ty).map (·.size)=some cs.size)
   (h:Vals P tmps w rs vs):Vals P tmps w (.cell p ty::rs) (.agg cs::vs)
section
variable {P:Program} {tmps:Array Value} {w:World}
theorem qlk {rs:List ResultVar} {vs:List Value} (hv:Vals P tmps w rs vs) (f:ResultVar→Sem Value) (hf:∀ u,f (.tmp u)=pure (tmps.getD u undef)) (hc:∀ a t,f (.cell a t)=(do loadVar t (← asAddr (tmps.getD a undef)))) :
  (rs.mapM f).run P w = .ok vs w:=by
 induction hv with
 | nil=>simp
 | tmp h ih=>simp [List.mapM_cons,hf,ih]
 | cell g t cs fr d hp hg hu hd hi h ih =>
  rw [List.mapM_cons,hc,hp]
  simp [asAddr,run_loadVar_row w g t _ cs fr d hg hu hd hi,ih]
theorem Oy {fn:Func} {rs:List ResultVar} {vs:List Value} (h:fn.results=rs.toArray) (hl:vs.length≠1) (hv:Vals P tmps w rs vs):(results fn tmps).run P w = .ok (.tuple vs.toArray) w:=by
 unfold results
 rw [h,List.mapM_toArray]
 simp only [Sem.run_bind,Sem.run_map]
 rw [qlk hv]
 ·
  simp [hl]
 ·
  intro u
  rfl
 intro a t
 rfl
end
end Go.Proofs.YtmhomdohhihlcaaW.PrintWords
namespace Go.Proofs.YtmhomdohhihlcaaW.PrintLast
section
variable {P:Program} {ops:Array Oper} {Q:Exit→Act→World→Prop} {md:Region.Mode} {S:World→Prop} {ds:List Nat}
def Region.reachB (md:Region.Mode) (ops:Array Oper) (i:Nat):Nat→Nat→Bool
 | 0,_=>false
 | fuel+1,d=>match ops[d]? with
  | some o=>o.after.any fun e=>Region.binds md e&&(e.on==i||Region.reachB md ops i fuel e.on)
  | none=>false
def Region.closedB (md:Region.Mode) (ops:Array Oper) (listed:Array Bool):Bool :=
 (List.range ops.size).all fun j => !listed.getD j false||match ops[j]? with
  | some o=>o.after.all fun e => !Region.binds md e||listed.getD e.on false
  | none=>true
def Region.lastB (md:Region.Mode) (ops:Array Oper) (listed:Array Bool) (ds:List Nat) (i:Nat):Bool :=
 ds.all fun d=>listed.getD d true||Region.reachB md ops i ops.size d
def G5 (md:Region.Mode) (ops:Array Oper) (listed:Array Bool):Prop :=
 ∀ j oj,ops[j]? = some oj→listed.getD j false=true → ∀ e∈oj.after,Region.binds md e=true→listed.getD e.on false=true
theorem Region.closedB_spec {listed:Array Bool} (h:Region.closedB md ops listed=true):G5 md ops listed:=by
 intro j oj hj hl e he hb
 have hlt:j<ops.size:=(Array.getElem?_eq_some_iff.1 hj).1
 have h1:=List.all_eq_true.1 h j (List.mem_range.2 hlt)
 simp only [hl,hj,Bool.not_true,Bool.false_or] at h1
 have h2:=Array.all_eq_true_iff_forall_mem.1 h1 e he
 simpa [hb] using h2
theorem G5.set {listed:Array Bool} {i:Nat} (h:G5 md ops listed) (hi:i∈Region.ready md ops listed):G5 md ops (listed.setIfInBounds i true):=by
 obtain ⟨_,oi,hoi,hall⟩:=mem_ready.1 hi
 intro j oj hj hl e he hb
 by_cases hij:i=j
 ·
  subst hij
  have:oj=oi:=Option.some.inj (hj.symm.trans hoi)
  subst this
  exact getD_set_true (hall e he hb)
 rw [getD_set_ne false hij] at hl
 exact getD_set_true (h j oj hj hl e he hb)
theorem Region.reach_listed {listed:Array Bool} {i:Nat} (hc:G5 md ops listed):∀ (fuel d:Nat),Region.reachB md ops i fuel d=true→listed.getD d false=true→listed.getD i false=true
 | 0,_,h,_=>by simp [Region.reachB] at h
 | fuel+1,d,h,hl=>by
  unfold Region.reachB at h
  cases ho:ops[d]? with
  | none=>rw [ho] at h;simp at h
  | some o =>
   rw [ho] at h
   obtain ⟨e,he,h1⟩:=Array.any_eq_true'.1 h
   simp only [Bool.and_eq_true,Bool.or_eq_true,beq_iff_eq] at h1
   have hle:=hc d o ho hl e he h1.1
   rcases h1.2 with h2|h2
   ·
    rw [← h2];exact hle
   exact Region.reach_listed hc fuel e.on h2 hle
theorem Region.reach_not_ready {listed:Array Bool} {i d fuel:Nat} (hc:G5 md ops listed) (hr:Region.reachB md ops i fuel d=true) (hun:listed.getD i true=false):d ∉ Region.ready md ops listed:=by
 intro hd
 obtain ⟨_,o,ho,hall⟩:=mem_ready.1 hd
 have hi:listed.getD i false=true:=by
  cases fuel with
  | zero=>simp [Region.reachB] at hr
  | succ n =>
   unfold Region.reachB at hr
   rw [ho] at hr
   obtain ⟨e,he,h1⟩:=Array.any_eq_true'.1 hr
   simp only [Bool.and_eq_true,Bool.or_eq_true,beq_iff_eq] at h1
   have hle:=hall e he h1.1
   rcases h1.2 with h2|h2
   ·
    rw [← h2];exact hle
   exact Region.reach_listed hc n e.on h2 hle
 rcases Nat.lt_or_ge i listed.size with h'|h'
 ·
  simp [h'] at hun hi
  rw [hun] at hi
  cases hi
 simp [Array.getElem?_eq_none h'] at hun
def YU (P:Program) (md:Region.Mode) (ops:Array Oper) (Q:Exit→Act→World→Prop) (S:World→Prop) (ds:List Nat):Nat→Array Bool→Act→World→Prop
 | 0,listed,a,w=>Region.ready md ops listed=[]∧Q .normal a w
 | fuel+1,listed,a,w =>
  (Region.ready md ops listed=[]→Q .normal a w) ∧
  ∀ i∈Region.ready md ops listed,wpOp P ops Q i (fun a' w'=>(i ∉ ds→S w→S w')∧YU P md ops Q S ds fuel (listed.setIfInBounds i true) a' w') a w
theorem Xi:∀ (fuel:Nat) (listed:Array Bool) (a:Act) (w:World),YU P md ops Q S ds fuel listed a w→wpAny P md ops Q fuel listed a w
 | 0,_,_,_,h=>h
 | fuel+1,_,_,_,h=>⟨h.1,fun i hi=>wpOp_mono (fun a' w' h'=>Xi fuel _ a' w' h'.2) (h.2 i hi)⟩
theorem qbk {i:Nat} {oi:Oper} {v:Value} (hi:ops[i]? = some oi) (hsel:∀ (j:Nat) (o:Oper) cs b,ops[j]? = some o→o.op ≠ .select cs b)
  (hQ:∀ c a w,Q (.panic c) (a.put oi.dst v) w→Q (.panic c) a w) (n:Nat) :
  ∀ (fuel:Nat) (listed:Array Bool) (a:Act) (w:World),
   (∀ j oj,ops[j]? = some oj→j≠i→listed.getD j true=false→(∀ e∈oj.after,Region.binds md e=true→e.on≠i)→oi.apart ops oj=true) →
   G5 md ops listed→(∀ d∈ds,listed.getD d true=false→Region.reachB md ops i n d=true) →
   i∈Region.ready md ops listed→YieldsIf P ops S oi v a→S w →
   YU P md ops Q S ds fuel (listed.setIfInBounds i true) (a.put oi.dst v) w→YU P md ops Q S ds (fuel+1) listed a w:=by
 intro fuel
 induction fuel with
 | zero =>
  intro listed a w _ _ _ hr hy hS H
  refine ⟨fun h=>(by rw [h] at hr;cases hr),fun j hj => ?_⟩
  by_cases hji:j=i
  ·
   subst hji;exact hy.wpOp hi hS ⟨fun _ h=>h,H⟩
  have:=ready_mono hj hji
  rw [H.1] at this
  cases this
 | succ fuel ih =>
  intro listed a w hfree hc hd hr hy hS H
  refine ⟨fun h=>(by rw [h] at hr;cases hr),fun j hj => ?_⟩
  by_cases hji:j=i
  ·
   subst hji;exact hy.wpOp hi hS ⟨fun _ h=>h,H⟩
  have h1:=H.2 j (ready_mono hj hji)
  obtain ⟨hjun,oj,hoj,hall⟩:=mem_ready.1 hj
  have hiun:=(mem_ready.1 hr).1
  have hnot:∀ e∈oj.after,Region.binds md e=true→e.on≠i:=fun e he hb heq=>by
   have h1:=hall e he hb
   rw [heq] at h1
   rcases Nat.lt_or_ge i listed.size with h'|h'
   ·
    simp [h'] at hiun h1;rw [hiun] at h1;cases h1
   simp [Array.getElem?_eq_none h'] at h1
  have hjd:j ∉ ds:=fun hm=>Region.reach_not_ready hc (hd j hm hjun) hiun hj
  have h2:=wpOp_putIf hoj (hfree j oj hoj hji hjun hnot) (fun cs b=>hsel i oi cs b hi) (fun cs b=>hsel j oj cs b hoj) hQ hy h1
  have hfree':∀ k ok,ops[k]? = some ok→k≠i→(listed.setIfInBounds j true).getD k true=false →
    (∀ e∈ok.after,Region.binds md e=true→e.on≠i)→oi.apart ops ok=true:=fun k ok hk hki hun hno=>by
   refine hfree k ok hk hki ?_ hno
   by_cases hjk:j=k
   ·
    subst hjk;exact hjun
   rw [getD_set_ne true hjk] at hun;exact hun
  have hd':∀ d∈ds,(listed.setIfInBounds j true).getD d true=false→Region.reachB md ops i n d=true:=fun d hm hun=>by
   refine hd d hm ?_
   by_cases hjk:j=d
   ·
    subst hjk;exact hjun
   rw [getD_set_ne true hjk] at hun;exact hun
  refine wpOp_mono (fun a' w' h3=>⟨h3.2.1,ih (listed.setIfInBounds j true) a' w' hfree' (hc.set hj) hd' (ready_mono hr (Ne.symm hji)) h3.1 (h3.2.1 hjd hS) ?_⟩) h2
  rw [Array.setIfInBounds_comm _ _ hji]
  exact h3.2.2
theorem qde {i:Nat} {oi:Oper} {v:Value} (hi:ops[i]? = some oi) (hsel:∀ (j:Nat) (o:Oper) cs b,ops[j]? = some o→o.op ≠ .select cs b)
  (hQ:∀ c a w,Q (.panic c) (a.put oi.dst v) w→Q (.panic c) a w) :
  ∀ (fuel:Nat) (listed:Array Bool) (a:Act) (w:World),
   (∀ j oj,ops[j]? = some oj→j≠i→listed.getD j true=false→(∀ e∈oj.after,Region.binds md e=true→e.on≠i)→oi.apart ops oj=true) →
   i∈Region.ready md ops listed→Yields P ops oi v a →
   YU P md ops Q S ds fuel (listed.setIfInBounds i true) (a.put oi.dst v) w→YU P md ops Q S ds (fuel+1) listed a w:=by
 intro fuel
 induction fuel with
 | zero =>
  intro listed a w _ hr hy H
  refine ⟨fun h=>(by rw [h] at hr;cases hr),fun j hj => ?_⟩
  by_cases hji:j=i
  ·
   subst hji;exact (hy.yieldsIf (S:=fun _=>True)).wpOp hi trivial ⟨fun _ h=>h,H⟩
  have:=ready_mono hj hji
  rw [H.1] at this
  cases this
 | succ fuel ih =>
  intro listed a w hfree hr hy H
  refine ⟨fun h=>(by rw [h] at hr;cases hr),fun j hj => ?_⟩
  by_cases hji:j=i
  ·
   subst hji;exact (hy.yieldsIf (S:=fun _=>True)).wpOp hi trivial ⟨fun _ h=>h,H⟩
  have h1:=H.2 j (ready_mono hj hji)
  obtain ⟨hjun,oj,hoj,hall⟩:=mem_ready.1 hj
  have hiun:=(mem_ready.1 hr).1
  have hnot:∀ e∈oj.after,Region.binds md e=true→e.on≠i:=fun e he hb heq=>by
   have h1:=hall e he hb
   rw [heq] at h1
   rcases Nat.lt_or_ge i listed.size with h'|h'
   ·
    simp [h'] at hiun h1;rw [hiun] at h1;cases h1
   simp [Array.getElem?_eq_none h'] at h1
  have h2:=wpOp_put hoj (hfree j oj hoj hji hjun hnot) (fun cs b=>hsel i oi cs b hi) (fun cs b=>hsel j oj cs b hoj) hQ hy h1
  have hfree':∀ k ok,ops[k]? = some ok→k≠i→(listed.setIfInBounds j true).getD k true=false →
    (∀ e∈ok.after,Region.binds md e=true→e.on≠i)→oi.apart ops ok=true:=fun k ok hk hki hun hno=>by
   refine hfree k ok hk hki ?_ hno
   by_cases hjk:j=k
   ·
    subst hjk;exact hjun
   rw [getD_set_ne true hjk] at hun;exact hun
  refine wpOp_mono (fun a' w' h3=>⟨h3.2.1,ih (listed.setIfInBounds j true) a' w' hfree' (ready_mono hr (Ne.symm hji)) h3.1 ?_⟩) h2
  rw [Array.setIfInBounds_comm _ _ hji]
  exact h3.2.2
theorem qcO {i:Nat} {oi:Oper} {v:Value} {fuel:Nat} {listed:Array Bool} {a:Act} {w:World} (hi:ops[i]? = some oi)
  (hs:Region.noSelect ops=true) (hf:Region.free md ops listed i=true) (hr:(Region.ready md ops listed).contains i=true)
  (hc:Region.closedB md ops listed=true) (hl:Region.lastB md ops listed ds i=true)
  (hQ:∀ c a w,Q (.panic c) (a.put oi.dst v) w→Q (.panic c) a w) (hy:YieldsIf P ops S oi v a) (hS:S w)
  (h:YU P md ops Q S ds fuel (listed.setIfInBounds i true) (a.put oi.dst v) w):YU P md ops Q S ds (fuel+1) listed a w :=
 qbk hi (Region.noSelect_spec hs) hQ ops.size fuel listed a w (Region.free_spec hi hf) (Region.closedB_spec hc)
  (fun d hm hun=>by have:=List.all_eq_true.1 hl d hm;rw [hun] at this;simpa using this) (by simpa using hr) hy hS h
theorem qdd {rs:List Nat} {fuel:Nat} {listed:Array Bool} {a:Act} {w:World} (hr:Region.ready md ops listed=rs) (hne:rs≠[])
  (h:∀ i∈rs,wpOp P ops Q i (fun a' w'=>(i ∉ ds→S w→S w')∧YU P md ops Q S ds fuel (listed.setIfInBounds i true) a' w') a w):YU P md ops Q S ds (fuel+1) listed a w :=
 ⟨fun h0=>absurd (hr ▸ h0) hne,hr ▸ h⟩
theorem qcN {listed:Array Bool} {a:Act} {w:World} (hr:Region.ready md ops listed=[]) (h:Q .normal a w) :
  ∀ fuel,YU P md ops Q S ds fuel listed a w
 | 0=>⟨hr,h⟩
 | _+1=>⟨fun _=>h,by rw [hr];simp⟩
theorem qcR {id:Nat} {a:Act} {w:World} (hm:P.follows .mixedOrders=true)
  (h:YU P .any ops Q S ds ops.size (Array.replicate ops.size false) a { w with drawn:=w.drawn+1 }):(Code.region id ops true).wp P Q a w :=
 wp_region_any hm (Xi _ _ _ _ h)
end
section
variable {P:Program} {ops:Array Oper} {Q:Exit→Act→World→Prop} {md:Region.Mode} {S:World→Prop} {ds:List Nat}
def JW (P:Program) (md:Region.Mode) (ops:Array Oper) (Q:Exit→Act→World→Prop) (S:World→Prop) (ds:List Nat) (fuel:Nat) (listed:Array Bool) (a:Act) (w:World) (rs:List Nat):Prop :=
 ∀ i∈rs,wpOp P ops Q i (fun a' w'=>(i ∉ ds→S w→S w')∧YU P md ops Q S ds fuel (listed.setIfInBounds i true) a' w') a w
theorem JW.nil {fuel:Nat} {listed:Array Bool} {a:Act} {w:World}:JW P md ops Q S ds fuel listed a w []:=fun _ h=>by cases h
theorem JW.cons {fuel:Nat} {listed:Array Bool} {a:Act} {w:World} {i:Nat} {o:Oper} {rs:List Nat} (ho:ops[i]? = some o) (hd:i ∉ ds)
  (h:∀ K':Act→World→Prop,Shut (∀ a w,S w→(S w→YU P md ops Q S ds fuel (listed.setIfInBounds i true) a w)→K' a w)→if Region.wanted o (yielded ops a.tmps)=true then Oper.wp P o a w K' Q else K' (a.put o.dst undef) w)
  (hs:JW P md ops Q S ds fuel listed a w rs):JW P md ops Q S ds fuel listed a w (i::rs):=fun j hj=>by
 rcases List.mem_cons.1 hj with rfl|hj
 ·
  exact wpOp_step ho (fun K' hK=>h K' (fun a w hS hW=>hK a w ⟨fun _ _=>hS,hW hS⟩))
 exact hs j hj
theorem Wj {rs:List Nat} {fuel:Nat} {listed:Array Bool} {a:Act} {w:World} (hr:Region.ready md ops listed=rs) (hne:rs≠[])
  (h:JW P md ops Q S ds fuel listed a w rs):YU P md ops Q S ds (fuel+1) listed a w:=qdd hr hne h
theorem qaS {id n:Nat} {a:Act} {w:World} (l:Array Bool) (hm:P.follows .mixedOrders=true) (hn:ops.size=n) (hl:Array.replicate n false=l) (hS:S w.drew)
  (h:S w.drew→YU P .any ops Q S ds n l a w.drew):(Code.region id ops true).wp P Q a w:=by
 subst hn
 subst hl
 exact qcR hm (h hS)
def qgv (md:Region.Mode) (ops:Array Oper) (ds:List Nat) (l l':Array Bool) (i:Nat):Bool :=
 Region.noSelect ops&&Region.free md ops l i&&(Region.ready md ops l).contains i&&Region.closedB md ops l&&Region.lastB md ops l ds i&&(l.setIfInBounds i true==l')
theorem Oh {i:Nat} {N:Option Tmp} {oi:Oper} {v:Value} {fuel:Nat} {l:Array Bool} {a:Act} {w:World} (l':Array Bool) (hi:ops[i]? = some oi) (hN:oi.dst=N) (hc:qgv md ops ds l l' i=true)
  (hQ:∀ c a w,Q (.panic c) (a.put oi.dst v) w→Q (.panic c) a w) (hy:YieldsIf P ops S oi v a) (hS:S w) {a':Act} (ha:a.put N v=a')
  (h:YU P md ops Q S ds fuel l' a' w):YU P md ops Q S ds (fuel+1) l a w:=by
 subst ha
 subst hN
 simp only [qgv,Bool.and_eq_true,beq_iff_eq] at hc
 obtain ⟨⟨⟨⟨⟨h1,h2⟩,h3⟩,h4⟩,h5⟩,h6⟩:=hc
 subst h6
 exact qcO hi h1 h2 h3 h4 h5 hQ hy hS h
def anyB (md:Region.Mode) (ops:Array Oper) (l l':Array Bool) (i:Nat):Bool :=
 Region.noSelect ops&&Region.free md ops l i&&(Region.ready md ops l).contains i&&(l.setIfInBounds i true==l')
theorem ZE {i:Nat} {N:Option Tmp} {oi:Oper} {v:Value} {fuel:Nat} {l:Array Bool} {a:Act} {w:World} (l':Array Bool) (hi:ops[i]? = some oi) (hN:oi.dst=N) (hc:anyB md ops l l' i=true)
  (hQ:∀ c a w,Q (.panic c) (a.put oi.dst v) w→Q (.panic c) a w) (hy:Yields P ops oi v a) {a':Act} (ha:a.put N v=a')
  (h:YU P md ops Q S ds fuel l' a' w):YU P md ops Q S ds (fuel+1) l a w:=by
 subst ha
 subst hN
 simp only [anyB,Bool.and_eq_true,beq_iff_eq] at hc
 obtain ⟨⟨⟨h1,h2⟩,h3⟩,h6⟩:=hc
 subst h6
 exact qde hi (Region.noSelect_spec h1) hQ fuel l a w (Region.free_spec hi h2) (by simpa using h3) hy h
def qeu (md:Region.Mode) (ops:Array Oper) (l l':Array Bool) (i:Nat):Bool:=(Region.ready md ops l==[i])&&(l.setIfInBounds i true==l')
theorem one_ {i:Nat} {N:Option Tmp} {oi:Oper} {fuel:Nat} {l:Array Bool} {a:Act} {w:World} (l':Array Bool) (hi:ops[i]? = some oi) (hN:oi.dst=N) (hc:qeu md ops l l' i=true) (hd:i ∉ ds)
  (h:∀ K:Act→World→Prop,Shut (∀ a' w',S w'→(S w'→YU P md ops Q S ds fuel l' a' w')→K a' w')→if Region.wanted oi (yielded ops a.tmps)=true then Oper.wp P oi a w K Q else K (a.put N undef) w) :
  YU P md ops Q S ds (fuel+1) l a w:=by
 subst hN
 simp only [qeu,Bool.and_eq_true,beq_iff_eq] at hc
 obtain ⟨h1,h2⟩:=hc
 subst h2
 exact Wj h1 (by simp) (JW.cons hi hd (fun K hK=>h K hK) JW.nil)
theorem qdl {l:Array Bool} {a:Act} {w:World} {n:Nat} (hr:(Region.ready md ops l==[])=true) (h:Q .normal a w):YU P md ops Q S ds n l a w:=qcN (by simpa using hr) h n
theorem two_ {i j:Nat} {Ni Nj:Option Tmp} {oi oj:Oper} {fuel:Nat} {l:Array Bool} {a:Act} {w:World} (li lj:Array Bool) (hi:ops[i]? = some oi) (hj:ops[j]? = some oj) (hNi:oi.dst=Ni) (hNj:oj.dst=Nj)
  (hc:(Region.ready md ops l==[i,j]&&l.setIfInBounds i true==li&&l.setIfInBounds j true==lj)=true) (hdi:i ∉ ds) (hdj:j ∉ ds)
  (h1:∀ K:Act→World→Prop,Shut (∀ a' w',S w'→(S w'→YU P md ops Q S ds fuel li a' w')→K a' w')→if Region.wanted oi (yielded ops a.tmps)=true then Oper.wp P oi a w K Q else K (a.put Ni undef) w)
  (h2:∀ K:Act→World→Prop,Shut (∀ a' w',S w'→(S w'→YU P md ops Q S ds fuel lj a' w')→K a' w')→if Region.wanted oj (yielded ops a.tmps)=true then Oper.wp P oj a w K Q else K (a.put Nj undef) w) :
  YU P md ops Q S ds (fuel+1) l a w:=by
 subst hNi
 subst hNj
 simp only [Bool.and_eq_true,beq_iff_eq] at hc
 obtain ⟨⟨h3,h4⟩,h5⟩:=hc
 subst h4
 subst h5
 exact Wj h3 (by simp) (JW.cons hi hdi (fun K hK=>h1 K hK) (JW.cons hj hdj (fun K hK=>h2 K hK) JW.nil))
def W8:Act→List (Tmp × Value)→Act
 | a,[]=>a
 | a,(n,v)::r=>W8 (a.put (some n) v) r
theorem qoJ {σ:Type} {fuel:Nat} {l:Array Bool} {a:Act} {w:World} (fuel':Nat) (l':Array Bool) (ns:σ→List (Tmp × Value)) (F:σ→World→Prop)
  (hcont:∀ s w',F s w'→YU P md ops Q S ds fuel' l' (W8 a (ns s)) w')
  (h:(∀ s w',F s w'→YU P md ops Q S ds fuel' l' (W8 a (ns s)) w')→YU P md ops Q S ds fuel l a w):YU P md ops Q S ds fuel l a w:=h hcont
theorem Gl {fuel:Nat} {l:Array Bool} {a a':Act} {w:World} (ha:a=a') (h:YU P md ops Q S ds fuel l a' w):YU P md ops Q S ds fuel l a w:=by
 subst ha
 exact h
theorem qkc {oi:Oper} {N:Option Tmp} {a:Act} {w:World} {K:Act→World→Prop} (f:FuncId) (args:Array Value) (hw:Region.wanted oi (yielded ops a.tmps)=true) (hN:oi.dst=N) (hrun:(execOp a.eval oi).run P w = .ok (.enter f args) w)
  (h:Calls P f args w fun e w' => ∃ v,e = .returned v∧K (a.put N v) w'):if Region.wanted oi (yielded ops a.tmps)=true then Oper.wp P oi a w K Q else K (a.put N undef) w:=by
 rw [if_pos hw]
 subst hN
 unfold Oper.wp
 rw [hrun,Oper.upon_enter]
 refine h.mono fun e w'' hh => ?_
 obtain ⟨v,rfl,hk⟩:=hh
 exact hk
theorem XJ {f : FuncId} {fn : Func} (hf : P.funcs[f]? = some fn) (hname : (fn.name == "runtime.NumGoroutine") = false) (hb : fn.body.isSome = true) (args : Array Value) (w : World) : (callFunc f args).run P w = .ok (.enter f args) w := by
 have h1 : fn.name ≠ "runtime.NumGoroutine" := by simpa using hname
 obtain ⟨c,hc⟩:=Option.isSome_iff_exists.1 hb
 simp [callFunc,hf,h1,hc]
theorem XL {oi : Oper} {N : Option Tmp} {a : Act} {w : World} {K : Act → World → Prop} {f : FuncId} {fn : Func} {aas : Array Operand} {ts : Array TypeId} (hf : P.funcs[f]? = some fn) (hname : (fn.name == "runtime.NumGoroutine") = false) (hb : fn.body.isSome = true) (args : Array Value)
  (hw:Region.wanted oi (yielded ops a.tmps)=true) (hN:oi.dst=N) (hop:oi.op = .call { callee:=.value (.func f),args:=aas,argTypes:=ts }) (hargs:aas.map a.eval=args)
  (h:Calls P f args w fun e w' => ∃ v,e = .returned v∧K (a.put N v) w'):if Region.wanted oi (yielded ops a.tmps)=true then Oper.wp P oi a w K Q else K (a.put N undef) w:=by
 refine qkc f args hw hN ?_ h
 have he:=XJ hf hname hb args w
 unfold execOp
 simp [hop,resolve,Deferred.ofValue,invoke,Act.eval,hargs,he]
theorem YL {rest : List Oper} {oi : Oper} {a : Act} {w : World} (N : Option Tmp) (hd : oi.dst = N) (hg : oi.guard = none) {f : FuncId} {fn : Func} {aas : Array Operand} {ts : Array TypeId} (hf : P.funcs[f]? = some fn) (hname : (fn.name == "runtime.NumGoroutine") = false) (hb : fn.body.isSome = true) (args : Array Value)
  (hop:oi.op = .call { callee:=.value (.func f),args:=aas,argTypes:=ts }) (hargs:aas.map a.eval=args)
  (h:Calls P f args w fun e w' => ∃ v,e = .returned v∧wpList P ops Q rest (a.put N v) w'):wpList P ops Q (oi::rest) a w:=by
 refine wpList_plain hg fun K hK => ?_
 have he:=XJ hf hname hb args w
 have hrun:(execOp a.eval oi).run P w = .ok (.enter f args) w:=by
  unfold execOp
  simp [hop,resolve,Deferred.ofValue,invoke,Act.eval,hargs,he]
 unfold Oper.wp
 rw [hrun,Oper.upon_enter]
 refine h.mono fun e w'' hh => ?_
 obtain ⟨v,rfl,hk⟩:=hh
 subst hd
 exact hK _ _ hk
theorem qhK {oi:Oper} {N:Option Tmp} {a:Act} {w w1:World} {v:Value} {K:Act→World→Prop} (hw:Region.wanted oi (yielded ops a.tmps)=true) (hN:oi.dst=N) (hrun:(execOp a.eval oi).run P w = .ok (.value v) w1)
  (h:K (a.put N v) w1):if Region.wanted oi (yielded ops a.tmps)=true then Oper.wp P oi a w K Q else K (a.put N undef) w:=by
 rw [if_pos hw]
 subst hN
 unfold Oper.wp
 rw [hrun]
 exact h
theorem qld {oi:Oper} {a:Act} {w w1:World} {K:Act→World→Prop} (hw:Region.wanted oi (yielded ops a.tmps)=true) (hN:oi.dst=none) (hrun:(execOp a.eval oi).run P w = .ok .skip w1)
  (h:K a w1):if Region.wanted oi (yielded ops a.tmps)=true then Oper.wp P oi a w K Q else K (a.put none undef) w:=by
 rw [if_pos hw]
 unfold Oper.wp
 rw [hrun]
 show K (a.put oi.dst undef) w1
 rw [hN]
 exact h
theorem Yj (n:Int):IntKind.i64.wrap n=Go.RowKit.wrap64 n:=by unfold Go.RowKit.wrap64;exact IntKind.wrap_i64 n
theorem Yu (n:Int):IntKind.i32.wrap n=Go.RowKit.wrap32 n:=by unfold Go.RowKit.wrap32;exact IntKind.wrap_i32 n
end
end Go.Proofs.YtmhomdohhihlcaaW.PrintLast
namespace Go.Proofs.YtmhomdohhihlcaaW.PrintLast
open Go.Proofs.YtmhomdohhihlcaaW.PrintWords (Q0)
def WX (md:Region.Mode) (o:Oper):List Nat:=(o.after.toList.filter (fun e=>Region.binds md e)).map (fun e=>e.on)
def qdQ (md:Region.Mode) (ops:Array Oper) (i:Nat) (oi:Oper):List Nat:=(List.range ops.size).filter fun j => !(j==i)&&match ops[j]? with
 | some oj => !(oj.after.any (fun e=>Region.binds md e&&e.on==i)||oi.apart ops oj)
 | none=>false
def rtab (md:Region.Mode) (ops:Array Oper):Bool × List (List Nat × List Nat):=(Region.noSelect ops,(List.range ops.size).map fun i=>match ops[i]? with
 | some o=>(WX md o,qdQ md ops i o)
 | none=>([],[]))
def Um (T:List (List Nat × List Nat)) (l:List Bool) (i:Nat):Bool:=!l.getD i true&&match T[i]? with
 | some r=>r.1.all (fun j=>l.getD j false)
 | none=>false
def qaQ (T:List (List Nat × List Nat)) (l:List Bool):List Nat:=(List.range T.length).filter (Um T l)
def qfn (T:List (List Nat × List Nat)) (l:List Bool) (i:Nat):Bool:=match T[i]? with
 | some r=>r.2.all (fun j=>l.getD j true)
 | none=>false
def qbp (T:List (List Nat × List Nat)) (l:List Bool):Bool:=(List.range T.length).all fun j => !l.getD j false||match T[j]? with
 | some r=>r.1.all (fun k=>l.getD k false)
 | none=>true
def qaP (T:List (List Nat × List Nat)) (i:Nat):Nat→Nat→Bool
 | 0,_=>false
 | fuel+1,d=>match T[d]? with
  | some r=>r.1.any fun j=>j==i||qaP T i fuel j
  | none=>false
def qiF (T:List (List Nat × List Nat)) (l:List Bool) (ds:List Nat) (i:Nat):Bool:=ds.all fun d=>l.getD d true||qaP T i T.length d
section
variable {md:Region.Mode} {ops:Array Oper} {T:Bool × List (List Nat × List Nat)} {l l' li lj lk:Array Bool} {ds:List Nat} {i j k:Nat}
theorem gd (l:Array Bool) (j:Nat) (b:Bool):l.getD j b=l.toList.getD j b:=by simp [Array.getD_eq_getD_getElem?,List.getD_eq_getElem?_getD]
theorem qdo (o:Oper) (p:Nat→Bool):o.after.all (fun e => !Region.binds md e||p e.on)=(WX md o).all p:=by
 unfold WX
 rw [← Array.all_toList]
 induction o.after.toList with
 | nil=>rfl
 | cons e r ih =>
  rw [List.all_cons,ih,List.filter_cons]
  cases h:Region.binds md e<;>simp
theorem qjj (o:Oper) (p:Nat→Bool):o.after.any (fun e=>Region.binds md e&&p e.on)=(WX md o).any p:=by
 unfold WX
 rw [← Array.any_toList]
 induction o.after.toList with
 | nil=>rfl
 | cons e r ih =>
  rw [List.any_cons,ih,List.filter_cons]
  cases h:Region.binds md e<;>simp
theorem Un:(rtab md ops).2.length=ops.size:=by simp [rtab]
theorem X0 {o:Oper} (h:ops[i]? = some o):(rtab md ops).2[i]? = some (WX md o,qdQ md ops i o):=by
 have hi:=(Array.getElem?_eq_some_iff.1 h).1
 unfold rtab
 rw [List.getElem?_map,List.getElem?_range hi,Option.map_some,h]
theorem WZ (h:ops[i]? = none):(rtab md ops).2[i]? = none:=by
 have hi:ops.size≤i:=Array.getElem?_eq_none_iff.1 h
 exact List.getElem?_eq_none (by rw [Un];exact hi)
theorem qhA:Um (rtab md ops).2 l.toList i=(!l.getD i true&&((ops[i]?).map (·.after.all fun e => !Region.binds md e||l.getD e.on false)).getD false):=by
 unfold Um
 rw [gd]
 cases h:ops[i]? with
 | none=>rw [WZ h];rfl
 | some o =>
  rw [X0 h]
  simp only [Option.map_some,Option.getD_some]
  rw [← qdo]
  simp only [gd]
theorem qaA:Region.ready md ops l=qaQ (rtab md ops).2 l.toList:=by
 unfold Region.ready qaQ
 rw [Un]
 refine List.filter_congr (fun i _ => ?_)
 rw [qhA]
theorem qif:Region.free md ops l i=qfn (rtab md ops).2 l.toList i:=by
 unfold Region.free qfn
 cases h:ops[i]? with
 | none=>rw [WZ h]
 | some oi =>
  rw [X0 h]
  simp only [qdQ]
  rw [List.all_filter]
  congr 1
  funext j
  rw [gd]
  cases hj:ops[j]? with
  | none=>cases (j==i)<;>cases (l.toList.getD j true)<;>simp
  | some oj =>
   cases (j==i)<;>cases (l.toList.getD j true)<;>cases (oj.after.any (fun e=>Region.binds md e&&e.on==i)||oi.apart ops oj)<;>simp_all
theorem qi4:Region.closedB md ops l=qbp (rtab md ops).2 l.toList:=by
 unfold Region.closedB qbp
 rw [Un]
 congr 1
 funext j
 rw [gd]
 cases h:ops[j]? with
 | none=>rw [WZ h]
 | some o =>
  rw [X0 h]
  simp only
  rw [← qdo]
  simp only [gd]
theorem qf4:∀ (fuel d:Nat),Region.reachB md ops i fuel d=qaP (rtab md ops).2 i fuel d
 | 0,_=>rfl
 | fuel+1,d=>by
  unfold Region.reachB qaP
  cases h:ops[d]? with
  | none=>rw [WZ h]
  | some o =>
   rw [X0 h]
   simp only
   rw [← qjj]
   congr 1
   funext e
   rw [qf4 fuel]
theorem qnk:Region.lastB md ops l ds i=qiF (rtab md ops).2 l.toList ds i:=by
 unfold Region.lastB qiF
 rw [Un]
 congr 1
 funext d
 rw [gd,qf4]
theorem qa9 (h:Um T.2 l.toList i=true) (hT:rtab md ops=T):(Region.ready md ops l).contains i=true:=by
 subst hT
 rw [qaA]
 unfold qaQ
 rw [List.contains_iff_mem,List.mem_filter,List.mem_range]
 refine ⟨?_,h⟩
 unfold Um at h
 rw [Bool.and_eq_true] at h
 cases hq:(rtab md ops).2[i]? with
 | none=>rw [hq] at h;simp at h
 | some r=>exact (List.getElem?_eq_some_iff.1 hq).1
theorem qcJ (h:(l.toList.set i true==l'.toList)=true):(l.setIfInBounds i true==l')=true:=by
 rw [beq_iff_eq] at h ⊢
 apply Array.ext'
 rw [Array.toList_setIfInBounds]
 exact h
def anyT (T:Bool × List (List Nat × List Nat)) (l l':List Bool) (i:Nat):Bool:=T.1&&qfn T.2 l i&&Um T.2 l i&&(l.set i true==l')
theorem Zb (hT:rtab md ops=T) (h:anyT T l.toList l'.toList i=true):anyB md ops l l' i=true:=by
 simp only [anyT,Bool.and_eq_true] at h
 obtain ⟨⟨⟨h1,h2⟩,h3⟩,h4⟩:=h
 have h5:=qa9 h3 hT
 have h6:=qcJ h4
 subst hT
 simp only [anyB,Bool.and_eq_true]
 exact ⟨⟨⟨h1,by rw [qif];exact h2⟩,h5⟩,h6⟩
def qlh (T:Bool × List (List Nat × List Nat)) (ds:List Nat) (l l':List Bool) (i:Nat):Bool:=T.1&&qfn T.2 l i&&Um T.2 l i&&qbp T.2 l&&qiF T.2 l ds i&&(l.set i true==l')
theorem qnL (hT:rtab md ops=T) (h:qlh T ds l.toList l'.toList i=true):qgv md ops ds l l' i=true:=by
 simp only [qlh,Bool.and_eq_true] at h
 obtain ⟨⟨⟨⟨⟨h1,h2⟩,h3⟩,h4⟩,h5⟩,h6⟩:=h
 have h7:=qa9 h3 hT
 have h8:=qcJ h6
 subst hT
 simp only [qgv,Bool.and_eq_true]
 exact ⟨⟨⟨⟨⟨h1,by rw [qif];exact h2⟩,h7⟩,by rw [qi4];exact h4⟩,by rw [qnk];exact h5⟩,h8⟩
theorem KE (hT:rtab md ops=T) (h:(qaQ T.2 l.toList==[i]&&l.toList.set i true==l'.toList)=true):qeu md ops l l' i=true:=by
 simp only [Bool.and_eq_true] at h
 obtain ⟨h1,h2⟩:=h
 subst hT
 simp only [qeu,Bool.and_eq_true]
 exact ⟨by rw [qaA];exact h1,qcJ h2⟩
theorem qli (hT:rtab md ops=T) (h:(qaQ T.2 l.toList==[i,j]&&l.toList.set i true==li.toList&&l.toList.set j true==lj.toList)=true):(Region.ready md ops l==[i,j]&&l.setIfInBounds i true==li&&l.setIfInBounds j true==lj)=true:=by
 simp only [Bool.and_eq_true] at h ⊢
 obtain ⟨⟨h1,h2⟩,h3⟩:=h
 subst hT
 exact ⟨⟨by rw [qaA];exact h1,qcJ h2⟩,qcJ h3⟩
theorem XI (hT:rtab md ops=T) (h:(qaQ T.2 l.toList==[])=true):(Region.ready md ops l==[])=true:=by
 subst hT
 rw [qaA]
 exact h
def upM (B:List Nat) (d:Nat):List Nat→Nat
 | []=>0
 | n::r=>(2 ^ n ||| (if n<d then B.getD n 0 else 0)) ||| upM B d r
def Oz (T:List (List Nat × List Nat)) (B:List Nat):Bool:=(List.range T.length).all fun d=>match T[d]? with
 | some r=>(B.getD d 0 ||| upM B d r.1)==upM B d r.1
 | none=>false
theorem qiI {B:List Nat} {d i:Nat}:∀ {ns:List Nat},(upM B d ns).testBit i=true → ∃ n∈ns,n=i∨(n<d∧(B.getD n 0).testBit i=true)
 | [],h=>by simp [upM] at h
 | n::r,h=>by
  unfold upM at h
  rw [Nat.testBit_or,Nat.testBit_or,Bool.or_eq_true,Bool.or_eq_true] at h
  rcases h with (h|h)|h
  ·
   rw [Nat.testBit_two_pow] at h
   exact ⟨n,List.mem_cons_self,.inl (by simpa using h)⟩
  ·
   by_cases hn:n<d
   ·
    rw [if_pos hn] at h
    exact ⟨n,List.mem_cons_self,.inr ⟨hn,h⟩⟩
   rw [if_neg hn] at h
   simp at h
  obtain ⟨m,hm,h2⟩:=qiI h
  exact ⟨m,List.mem_cons_of_mem _ hm,h2⟩
theorem qdp {T:List (List Nat × List Nat)} {B:List Nat} (hB:Oz T B=true):∀ (fuel d:Nat),d<fuel→d<T.length→(B.getD d 0).testBit i=true→qaP T i fuel d=true
 | 0,d,h,_,_=>by omega
 | fuel+1,d,h,hd,hb=>by
  have h1:=List.all_eq_true.1 hB d (List.mem_range.2 hd)
  cases hr:T[d]? with
  | none=>rw [hr] at h1;simp at h1
  | some r =>
   rw [hr] at h1
   simp only [beq_iff_eq] at h1
   have h2:(upM B d r.1).testBit i=true:=by rw [← h1,Nat.testBit_or,hb,Bool.true_or]
   obtain ⟨n,hn,h3⟩:=qiI h2
   unfold qaP
   rw [hr]
   simp only
   rw [List.any_eq_true]
   refine ⟨n,hn,?_⟩
   rcases h3 with rfl|⟨h4,h5⟩
   ·
    simp
   rw [qdp hB fuel n (by omega) (by omega) h5,Bool.or_true]
def qoK (T:List (List Nat × List Nat)) (B:List Nat) (l:List Bool) (ds:List Nat) (i:Nat):Bool:=ds.all fun d=>l.getD d true||(decide (d<T.length)&&(B.getD d 0).testBit i)
def qoN (T:Bool × List (List Nat × List Nat)) (B:List Nat) (ds:List Nat) (l l':List Bool) (i:Nat):Bool:=T.1&&qfn T.2 l i&&Um T.2 l i&&qbp T.2 l&&qoK T.2 B l ds i&&(l.set i true==l')
theorem JI {B:List Nat} (hT:rtab md ops=T) (hB:Oz T.2 B=true) (h:qoN T B ds l.toList l'.toList i=true):qgv md ops ds l l' i=true:=by
 refine qnL hT ?_
 simp only [qoN,qlh,Bool.and_eq_true] at h ⊢
 obtain ⟨⟨⟨⟨⟨h1,h2⟩,h3⟩,h4⟩,h5⟩,h6⟩:=h
 refine ⟨⟨⟨⟨⟨h1,h2⟩,h3⟩,h4⟩,?_⟩,h6⟩
 unfold qoK at h5
 unfold qiF
 rw [List.all_eq_true] at h5 ⊢
 intro d hd
 have h7:=h5 d hd
 rw [Bool.or_eq_true,Bool.and_eq_true,decide_eq_true_eq] at h7
 rcases h7 with h7|⟨h8,h9⟩
 ·
  rw [h7,Bool.true_or]
 rw [qdp hB _ d h8 h8 h9,Bool.or_true]
theorem UO {P:Program} {Q:Exit→Act→World→Prop} {S:World→Prop} {n:Nat} {a:Act} {w:World} {B:List Nat} (hT:rtab md ops=T) (hB:Oz T.2 B=true) (h:Q0 (rtab md ops=T)→Q0 (Oz T.2 B=true)→YU P md ops Q S ds n l a w):YU P md ops Q S ds n l a w:=h ⟨hT⟩ ⟨hB⟩
end
def Xd:Code→Nat→Option (Array Oper)
 | .region id ops _,k=>if id==k then some ops else none
 | .seq a b,k=>match Xd a k with
  | some o=>some o
  | none=>Xd b k
 | .cond _ a b,k=>match Xd a k with
  | some o=>some o
  | none=>Xd b k
 | .block _ c,k=>Xd c k
 | .loop c,k=>Xd c k
 | .scope c,k=>Xd c k
 | .rangeFunc _ _ a b,k=>match Xd a k with
  | some o=>some o
  | none=>Xd b k
 | _,_=>none
def qfY (f:Func) (k:Nat):Array Oper:=((f.body.bind fun c=>Xd c k)).getD #[]
end Go.Proofs.YtmhomdohhihlcaaW.PrintLast
namespace Go.Proofs.YtmhomdohhihlcaaW.PrintWords
open Go.RowKit
namespace Kd
def tag {α:Type} (f:Nat→Nat) (d:Kd α):Kd (α × Nat) where
 sz:=d.sz
 E:=d.E
 K:=fun w x cs=>d.K w x.1 cs
 M:=fun w base ok x cs=>d.M w base (fun k=>ok k∧f k=x.2) x.1 cs
 K_len:=fun h=>d.K_len h
 K_one:=fun h=>d.K_one h
 K_below:=fun hb h=>d.K_below hb h
 K_of_M:=fun h=>d.K_of_M h
 M_mono:=fun hok h=>d.M_mono (fun k hk=>⟨hok k hk.1,hk.2⟩) h
 M_bound:=fun h=>d.M_mono (fun _ hk=>⟨⟨hk.1.1,hk.2⟩,hk.1.2⟩) (d.M_bound h)
 M_move:=fun hm h=>d.M_move (fun k hk=>hm k hk.1) h
 M_lower:=fun hb h=>d.M_lower hb h
def raw (sz:Nat):Kd (List Value) where
 sz:=sz
 E:=[]
 K:=fun _ x cs=>cs=x∧cs.length=sz ∧ ∀ u∈cs,u.oneCell'=true
 M:=fun _ _ _ x cs=>cs=x∧cs.length=sz ∧ ∀ u∈cs,u.oneCell'=true
 K_len:=fun h=>h.2.1
 K_one:=fun h=>h.2.2
 K_below:=fun _ h=>h
 K_of_M:=fun h=>h
 M_mono:=fun _ h=>h
 M_bound:=fun h=>h
 M_move:=fun _ h=>h
 M_lower:=fun _ h=>h
def S {α:Type} (d:Kd α) (e:Nat) (w:World) (base:Nat) (ok:Nat→Prop) (v:Value) (xs:List α):Prop:=∃ f,(tag f d).R e w base ok v xs.zipIdx
section
variable {α β:Type} {d:Kd α} {d':Kd β} {e e':Nat} {w w1 W:World} {base b:Nat} {ok ok' okv oku:Nat→Prop} {u v:Value} {xs:List α} {ys:List β}
theorem qlI (hE:d.E=[]) (h:d.R e w base ok v xs):d.R e w base (fun k=>some k=v.ownBlock) v xs:=by
 obtain ⟨h0,inner,ho,hr⟩:=h
 refine ⟨fun k hk=>hk.symm,inner,ho,hr.imp_ (fun p c hp=>d.M_mono (fun k hk => ?_) (d.M_bound hp))⟩
 obtain ⟨_,_,_,q,hq,_⟩:=hk
 rw [hE] at hq
 cases hq
end
def gap {α:Type} (f:Nat→Nat) (d:Kd α) (i:Nat) (c:List Value):Kd (α × Nat) where
 sz:=d.sz
 E:=d.E
 K:=fun w x cs=>(x.2=i→cs=c∧cs.length=d.sz ∧ ∀ u∈cs,u.oneCell'=true)∧(x.2≠i→d.K w x.1 cs)
 M:=fun w base ok x cs=>(x.2=i→cs=c∧cs.length=d.sz ∧ ∀ u∈cs,u.oneCell'=true)∧(x.2≠i→d.M w base (fun k=>ok k∧f k=x.2) x.1 cs)
 K_len:=fun {w x cs} h=>by
  by_cases hx:x.2=i
  ·
   exact (h.1 hx).2.1
  exact d.K_len (h.2 hx)
 K_one:=fun {w x cs} h=>by
  by_cases hx:x.2=i
  ·
   exact (h.1 hx).2.2
  exact d.K_one (h.2 hx)
 K_below:=fun hb h=>⟨h.1,fun hx=>d.K_below hb (h.2 hx)⟩
 K_of_M:=fun h=>⟨h.1,fun hx=>d.K_of_M (h.2 hx)⟩
 M_mono:=fun hok h=>⟨h.1,fun hx=>d.M_mono (fun k hk=>⟨hok k hk.1,hk.2⟩) (h.2 hx)⟩
 M_bound:=fun h=>⟨h.1,fun hx=>d.M_mono (fun _ hk=>⟨⟨hk.1.1,hk.2⟩,hk.1.2⟩) (d.M_bound (h.2 hx))⟩
 M_move:=fun hm h=>⟨h.1,fun hx=>d.M_move (fun k hk=>hm k hk.1) (h.2 hx)⟩
 M_lower:=fun hb h=>⟨h.1,fun hx=>d.M_lower hb (h.2 hx)⟩
def H {α:Type} (d:Kd α) (e:Nat) (w:World) (base:Nat) (ok:Nat→Prop) (v:Value) (xs:List α) (i:Int) (oki:Nat→Prop) (c:List Value):Prop :=
 (∀ k,oki k→ok k) ∧ ∃ f,(gap f d i.toNat c).R e w base (fun k=>ok k ∧ ¬ oki k) v xs.zipIdx
end Kd
end Go.Proofs.YtmhomdohhihlcaaW.PrintWords
namespace Go.Proofs.YtmhomdohhihlcaaW.PrintWords
open Go.RowKit
namespace Kd
structure Heap {α:Type} (d:Kd α):Prop where
 K:∀ {w w1:World} {x:α} {cs:List Value},(∀ k,k<w.heap.size→w1.heap[k]? = w.heap[k]?)→d.K w x cs→d.K w1 x cs
theorem qp7 {w w1:World} (hb:∀ k,k<w.heap.size→w1.heap[k]? = w.heap[k]?) {a:Addr} {v:Value} (h:w.cell? a=some v):w1.cell? a=some v:=by
 have:=hb a.block (World.block_lt_of_cell? w a h)
 simpa [World.cell?,this] using h
end Kd
end Go.Proofs.YtmhomdohhihlcaaW.PrintWords
namespace Go.Proofs.YtmhomdohhihlcaaW.PrintWords
open Go.RowKit
def Kept (w W:World) (S:Nat→Prop):Prop:=w.heap.size≤W.heap.size ∧ ∀ i,i<w.heap.size → ¬ S i→W.heap[i]? = w.heap[i]?
section
variable {w W W2:World} {S S2 S':Nat→Prop}
theorem Kept.refl (w:World) (S:Nat→Prop):Kept w w S:=⟨Nat.le_refl _,fun _ _ _=>rfl⟩
theorem Kept.of_below (h:Below w.heap.size w W) (S:Nat→Prop):Kept w W S:=⟨h.size,fun i hi _=>h.block i hi⟩
theorem Kept.mono (h:Kept w W S) (hs:∀ k,S k→S' k):Kept w W S':=⟨h.1,fun i hi hn=>h.2 i hi (fun hk=>hn (hs i hk))⟩
theorem Kept.then_ (h:Kept w W S) (k:Kept W W2 S2) (hs:∀ k,S2 k→S k∨w.heap.size≤k):Kept w W2 S :=
 ⟨Nat.le_trans h.1 k.1,fun i hi hn=>(k.2 i (Nat.lt_of_lt_of_le hi h.1) (fun h2=>(hs i h2).elim hn (fun h3=>by omega))).trans (h.2 i hi hn)⟩
theorem Kept.of_grown {row:Option Nat} (hg:W.grownBy W2 row) (h:Kept w W S) (hr:∀ k,row=some k→S k∨w.heap.size≤k):Kept w W2 S :=
 h.then_ (S2:=fun k=>row=some k) ⟨hg.size,fun i hi hn=>hg.block i hi (fun he=>hn he.symm)⟩ hr
theorem Kept.below (h:Kept w W S) (hb:Below W.heap.size W W2):Kept w W2 S:=h.then_ (Kept.of_below hb (fun _=>False)) (fun _ hk=>hk.elim)
theorem Kept.alloc (h:Kept w W S) (o:Obj):Kept w (W.alloc o) S:=h.below (Q3 (Below.refl _ _) o)
theorem Kept.setCell (h:Kept w W S) {p:Addr} (hp:S p.block∨w.heap.size≤p.block) (u:Value):Kept w (W.setCell p u) S :=
 h.then_ (S2:=fun k=>k=p.block) ⟨by simp [World.setCell],fun i _ hn=>Below.heap_setCell W p u i hn⟩ (fun k hk=>by rw [hk];exact hp)
theorem GT {g:Nat} {o:Obj} (hb:W.heap[g]? = some o) (hk:Kept W W2 S) (hne:¬ S g):W2.heap[g]? = some o:=(hk.2 g (QL hb) hne).trans hb
theorem WO {a:Addr} {v:Value} (hc:W.cell? a=some v) (hk:Kept W W2 S) (hne:¬ S a.block):W2.cell? a=some v:=by
 have:=hk.2 a.block (World.block_lt_of_cell? W a hc) hne
 simpa [World.cell?,this] using hc
end
namespace Kd
section
variable {α:Type} {d:Kd α} {e base n c:Nat} {ok oki S S2:Nat→Prop} {w w0 W W1 W2:World} {v:Value} {A:Option Addr} {xs:List α} {i:Int} {cs:List Value}
theorem R_kept (h:d.R e W base ok v xs) (hk:Kept W W2 S) (hne:∀ k,ok k → ¬ S k):d.R e W2 base ok v xs:=qcd h (fun k ho hlt=>hk.2 k hlt (hne k ho))
end
end Kd
end Go.Proofs.YtmhomdohhihlcaaW.PrintWords
namespace Go.Proofs.YtmhomdohhihlcaaW.PrintWords
open Go.RowKit
def Foot (P:World→Prop) (W:World) (ok:Nat→Prop):Prop:=∀ W':World,(∀ k,ok k→k<W.heap.size→W'.heap[k]? = W.heap[k]?)→P W'
theorem qms {W W1:World} {k:Nat} (h:W1.heap[k]? = W.heap[k]?) (hlt:k<W.heap.size):k<W1.heap.size:=by
 rw [Array.getElem?_eq_getElem hlt] at h
 exact (Array.getElem?_eq_some_iff.1 h).1
namespace Foot
variable {P Q:World→Prop} {W W1:World} {ok ok':Nat→Prop}
theorem now (h:Foot P W ok):P W:=h W (fun _ _ _=>rfl)
theorem mono (h:Foot P W ok) (hok:∀ k,ok k→ok' k):Foot P W ok':=fun W' hW=>h W' (fun k hk hlt=>hW k (hok k hk) hlt)
theorem bound (h:Foot P W ok):Foot P W (fun k=>ok k∧k<W.heap.size):=fun W' hW=>h W' (fun k hk hlt=>hW k ⟨hk,hlt⟩ hlt)
theorem step (h:Foot P W ok) (hm:∀ k,ok k→k<W.heap.size→W1.heap[k]? = W.heap[k]?):Foot P W1 ok:=fun W' hW=>h W' (fun k hk hlt=>(hW k hk (qms (hm k hk hlt) hlt)).trans (hm k hk hlt))
theorem imp (h:Foot P W ok) (hi:∀ W',P W'→Q W'):Foot Q W ok:=fun W' hW=>hi W' (h W' hW)
theorem old (h:Foot P W ok) (hb:Below W.heap.size W W1):Foot P W1 (fun k=>ok k∧k<W.heap.size):=(h.bound).step (fun k _ hlt=>hb.block k hlt)
end Foot
namespace Kd
def F {α:Type} (d:Kd α) (W:World) (ok:Nat→Prop) (A:Option Addr) (n:Nat) (xs:List α):Prop:=Foot (fun W=>d.C W A n xs) W ok
def FK {α:Type} (d:Kd α) (W:World) (ok:Nat→Prop) (x:α) (c:List Value):Prop:=Foot (fun W=>d.K W x c) W ok
section
variable {α β:Type} {d:Kd α} {e base n n' cc g N:Nat} {ok ok' okp S:Nat→Prop} {w w0 w1 W W1:World} {A A':Option Addr} {u v v1:Value} {xs:List α} {xs':List β} {d':Kd β} {x:α} {c:List Value}
theorem F_now (h:F d W ok A n xs):d.C W A n xs:=Foot.now h
theorem qjM (h:F d W ok A n xs) (hok:∀ k,ok k→ok' k):F d W ok' A n xs:=Foot.mono h hok
theorem qoU (h:F d W ok A n xs) (hm:∀ k,ok k→k<W.heap.size→W1.heap[k]? = W.heap[k]?):F d W1 ok A n xs:=Foot.step h hm
theorem qbl (h:F d W ok A n xs) (hb:Below W.heap.size W W1):F d W1 ok A n xs:=qoU h (fun k _ hlt=>hb.block k hlt)
theorem qlA (h:F d W ok A n xs) (o:Obj):F d (W.alloc o) ok A n xs:=qbl h (Q3 (Below.refl _ _) o)
theorem qoT (h:F d W ok A n xs):F d W.drew ok A n xs:=qbl h (Yr (Below.refl _ _))
theorem qlB (h:F d W ok A n xs) (m:Nat):F d (W.drewN m) ok A n xs:=qbl h (Q1 (Below.refl _ _) m)
theorem qqx (d:Kd α) (W:World) (ok:Nat→Prop):F d W ok none ([]:List α).length []:=fun W' _=>C_nil d W'
theorem qjL (h:F d W ok A n xs) (hbase:∀ k,v.ownBlock=some k→W.heap.size≤k) (hb:Below W.heap.size W W1):F d W1 (fun k=>ok k∧some k≠v.ownBlock) A n xs :=
 qjM (Foot.old h hb) (fun k hk=>⟨hk.1,fun he=>by have:=hbase k he.symm;have:=hk.2;omega⟩)
theorem R_F (h:d.R e W base ok (.slice A n cc) xs):F d W ok A n xs:=fun W' hW=>by
 have h2:=R_reads' (qcd h hW)
 rw [h2.1]
 exact h2.2.2
theorem qgD (h:FK d W ok x c):d.K W x c:=Foot.now h
theorem qdC (h:FK d W ok x c) (hok:∀ k,ok k→ok' k):FK d W ok' x c:=Foot.mono h hok
theorem qe6 (h:FK d W ok x c):FK d W (fun k=>ok k∧k<W.heap.size) x c:=Foot.bound h
theorem qhV (h:FK d W ok x c) (hm:∀ k,ok k→k<W.heap.size→W1.heap[k]? = W.heap[k]?):FK d W1 ok x c:=Foot.step h hm
theorem qlz (h:d.M W base ok x c):FK d W ok x c:=fun _ hW=>d.K_of_M (qjW h hW)
end
end Kd
end Go.Proofs.YtmhomdohhihlcaaW.PrintWords
namespace Go.Proofs.YtmhomdohhihlcaaW.PrintWords
open Go.RowKit
namespace Kd
def Wp (sz:Nat) (n:Nat) (inner:List Value):List (List Value):=(List.range n).map fun j=>(inner.drop (j*sz)).take sz
theorem JF (sz n:Nat) (inner:List Value):(Wp sz n inner).length=n:=by simp [Wp]
theorem qi3 {sz n:Nat} {inner:List Value} {j:Nat} (hj:j<n):(Wp sz n inner)[j]? = some ((inner.drop (j*sz)).take sz):=by simp [Wp,hj]
theorem Xj {sz n:Nat} {inner:List Value} {j:Nat} {c:List Value} (h:(Wp sz n inner)[j]? = some c):c=(inner.drop (j*sz)).take sz:=by
 have hj:j<n:=by have:=(List.getElem?_eq_some_iff.1 h).1;rwa [JF] at this
 rw [qi3 hj] at h
 injection h with h
 exact h.symm
theorem qf8 {α:Type} {Rr:α→List Value→Prop} {sz:Nat} {xs:List α} {inner:List Value} (h:Reps Rr sz xs inner) (hR:∀ x c,Rr x c→c.length=sz ∧ ∀ u∈c,u.oneCell'=true):Reps (fun x cs=>cs=x∧cs.length=sz ∧ ∀ u∈cs,u.oneCell'=true) sz (Wp sz xs.length inner) inner:=by
 refine ⟨by rw [JF];exact h.1,fun j p hj => ?_⟩
 have hjl:j<xs.length:=by have:=(List.getElem?_eq_some_iff.1 hj).1;rwa [JF] at this
 have hp:=Xj hj
 exact ⟨hp.symm,hR _ _ (h.2 j _ (List.getElem?_eq_getElem hjl))⟩
section
variable {α:Type} {d:Kd α} {e base n cc g:Nat} {ok ok' okp S:Nat→Prop} {w w1 W W1:World} {A:Option Addr} {u v v1:Value} {xs:List α} {x:α} {c:List Value}
def N {α:Type} (d:Kd α) (e:Nat) (w:World) (base:Nat) (ok:Nat→Prop) (v:Value) (xs:List α):Prop :=
 (∀ k,v.ownBlock=some k→ok k) ∧ ∃ rows:List (List Value),rows.length=xs.length∧(raw d.sz).R e w base (fun k=>some k=v.ownBlock) v rows ∧ ∀ (j:Nat) (x:α) (c:List Value),xs[j]? = some x→rows[j]? = some c→FK d w (fun k=>ok k∧some k≠v.ownBlock) x c
theorem qjn {sz:Nat} {rows:List (List Value)} (h:(raw sz).R e w base ok v rows):(raw sz).R e w base (fun k=>some k=v.ownBlock) v rows:=qlI rfl h
theorem R_N (h:d.R e w base ok v xs):N d e w base ok v xs:=by
 obtain ⟨h0,inner,ho,hr⟩:=h
 refine ⟨h0,Wp d.sz xs.length inner,JF _ _ _,⟨fun k hk=>hk.symm,inner,by rw [JF];exact ho,qf8 hr (fun x c hp=>⟨d.K_len (d.K_of_M hp),d.K_one (d.K_of_M hp)⟩)⟩,fun j x c hx hc => ?_⟩
 rw [Xj hc]
 exact qlz (hr.2 j x hx)
theorem N_nil (d:Kd α) (e:Nat) (w:World) (base:Nat) (ok:Nat→Prop):N d e w base ok (.slice none 0 0) []:=R_N (R_nil _ _ _ _ _)
theorem N_mono (h:N d e w base ok v xs) (hok:∀ k,ok k→ok' k):N d e w base ok' v xs:=by
 obtain ⟨h0,rows,hl,hR,hf⟩:=h
 exact ⟨fun k hk=>hok k (h0 k hk),rows,hl,hR,fun j x c hx hc=>qdC (hf j x c hx hc) (fun k hk=>⟨hok k hk.1,hk.2⟩)⟩
theorem N_lt (h:N d e w base ok v xs):∀ k,v.ownBlock=some k→k<w.heap.size:=by
 obtain ⟨_,rows,_,hR,_⟩:=h
 exact R_lt hR
theorem N_base (h:N d e w base ok v xs):∀ k,v.ownBlock=some k→base≤k:=by
 obtain ⟨_,rows,_,hR,_⟩:=h
 exact R_base hR
theorem N_typed (h:N d e w base ok v xs):∀ k,v.ownBlock=some k → ∃ cells,w.heap[k]? = some (.cells cells e (0,0)):=by
 obtain ⟨_,rows,_,hR,_⟩:=h
 exact R_typed hR
theorem qlH (h:N d e w base ok v xs):N d e w base (fun k=>ok k∧k<w.heap.size) v xs:=by
 have hlt:=N_lt h
 obtain ⟨h0,rows,hl,hR,hf⟩:=h
 exact ⟨fun k hk=>⟨h0 k hk,hlt k hk⟩,rows,hl,hR,fun j x c hx hc=>qdC (qe6 (hf j x c hx hc)) (fun k hk=>⟨⟨hk.1.1,hk.2⟩,hk.1.2⟩)⟩
theorem N_lower {base':Nat} (h:N d e w base ok v xs) (hb:base'≤base):N d e w base' ok v xs:=by
 obtain ⟨h0,rows,hl,hR,hf⟩:=h
 exact ⟨h0,rows,hl,R_lower hR hb,hf⟩
theorem qgF (h:N d e w base ok v xs) (hm:∀ k,ok k→k<w.heap.size→w1.heap[k]? = w.heap[k]?):N d e w1 base ok v xs:=by
 obtain ⟨h0,rows,hl,hR,hf⟩:=h
 exact ⟨h0,rows,hl,qcd hR (fun k hk hlt=>hm k (h0 k hk.symm) hlt),fun j x c hx hc=>qhV (hf j x c hx hc) (fun k hk hlt=>hm k hk.1 hlt)⟩
theorem qbm (h:N d e w base ok v xs) (hb:Below w.heap.size w w1):N d e w1 base ok v xs:=qgF h (fun k _ hk=>hb.block k hk)
theorem N_alloc (h:N d e w base ok v xs) (o:Obj):N d e (w.alloc o) base ok v xs:=qbm h (Q3 (Below.refl _ _) o)
theorem N_drew (h:N d e w base ok v xs):N d e w.drew base ok v xs:=qbm h (Yr (Below.refl _ _))
theorem N_drewN (h:N d e w base ok v xs) (m:Nat):N d e (w.drewN m) base ok v xs:=qbm h (Q1 (Below.refl _ _) m)
theorem N_far (h:N d e w base ok v xs) {p:Addr} (hok:∀ k,ok k→k≠p.block) (u:Value):N d e (w.setCell p u) base ok v xs:=qgF h (fun k ho _=>Below.heap_setCell w p u k (hok k ho))
theorem N_elder' (h:N d e W base ok v xs) (hbase:∀ k,u.ownBlock=some k→W.heap.size≤k) (hb:Below W.heap.size W w1):N d e w1 base (fun k=>ok k∧some k≠u.ownBlock) v xs :=
 N_mono (qbm (qlH h) hb) (fun k hk=>⟨hk.1,fun he=>by have:=hbase k he.symm;have:=hk.2;omega⟩)
theorem N_slice (h:N d e w base ok v xs):∃ A c,v = .slice A xs.length c:=by
 obtain ⟨_,rows,hl,hR,_⟩:=h
 obtain ⟨A,c,he⟩:=R_slice hR
 exact ⟨A,c,by rw [he,hl]⟩
theorem N_reads' {n c:Nat} (h:N d e w base ok (.slice A n c) xs):n=xs.length∧n≤c∧d.C w A xs.length xs:=by
 obtain ⟨_,rows,hl,hR,hf⟩:=h
 obtain ⟨hn,hc,hC⟩:=R_reads' hR
 refine ⟨by omega,hc,?_⟩
 rw [hl] at hC
 refine ⟨rfl,hC.2.1,fun hp => ?_⟩
 obtain ⟨ad,he,hcell⟩:=hC.2.2 hp
 refine ⟨ad,he,fun j p hj => ?_⟩
 have hjl:j<rows.length:=by have:=(List.getElem?_eq_some_iff.1 hj).1;omega
 obtain ⟨c',hcl,hK,hcc⟩:=hcell j _ (List.getElem?_eq_getElem hjl)
 have hk:=qgD (hf j p _ hj (List.getElem?_eq_getElem hjl))
 refine ⟨c',hcl,?_,hcc⟩
 rw [show c'=rows[j] from hK.1]
 exact hk
theorem N_reads (h:N d e w base ok v xs):∃ A c,v = .slice A xs.length c∧xs.length≤c∧d.C w A xs.length xs:=by
 obtain ⟨A,c,rfl⟩:=N_slice h
 exact ⟨A,c,rfl,(N_reads' h).2⟩
theorem N_F {n:Nat} (h:N d e w base ok (.slice A n cc) xs):F d w ok A n xs:=fun W' hW=>by
 have h2:=N_reads' (qgF h hW)
 rw [h2.1]
 exact h2.2.2
end
end Kd
end Go.Proofs.YtmhomdohhihlcaaW.PrintWords
namespace Go.Proofs.YtmhomdohhihlcaaW.PrintWords
open Go.RowKit
section
variable {P:Program} {d:Nat} {xs ys:Array Value} {f:Field} {fs:List Field} {a b:Value} {r s:Bool} {w:World}
theorem qfl (hn : (f.name == "_") = false) (ha : (part f.type xs f.offset).run P w = .ok a w) (hb : (part f.type ys f.offset).run P w = .ok b w) (he : (Op.equalIn d f.type a b).run P w = .ok r w) : (Op.eqFields d xs ys [f]).run P w = .ok r w := by
 have hn' : f.name ≠ "_" := by simpa using hn
 simp only [Op.eqFields,if_pos hn',Sem.run_bind,ha,hb,he,Result.andThen_ok]
 cases r<;>simp
theorem qkr (hn : (f.name == "_") = false) (ha : (part f.type xs f.offset).run P w = .ok a w) (hb : (part f.type ys f.offset).run P w = .ok b w) (he : (Op.equalIn d f.type a b).run P w = .ok r w) (hr : (Op.eqFields d xs ys fs).run P w = .ok s w) : (Op.eqFields d xs ys (f :: fs)).run P w = .ok (r && s) w := by
 have hn' : f.name ≠ "_" := by simpa using hn
 rw [Op.eqFields]
 simp only [if_pos hn',Sem.run_bind,ha,hb,he,Result.andThen_ok]
 cases r
 ·
  simp
 simpa using hr
theorem qkq {t:TypeId} {fs:Array Field} (hu:P.underlying t=some (.struct fs)) (hp:P.stoodInHeld t=false) (h:(Op.eqFields d xs ys fs.toList).run P w = .ok r w):(Op.equalIn (d+1) t (.agg xs) (.agg ys)).run P w = .ok r w:=by
 have hf:P.fieldsOf t=fs:=by simp [Program.fieldsOf,hu]
 rw [run_equalIn_struct (P:=P) w d t xs ys (by rw [hf];exact hu) hp,hf]
 exact h
end
end Go.Proofs.YtmhomdohhihlcaaW.PrintWords
namespace Go.Proofs.YtmhomdohhihlcaaW.PrintWords
theorem Reps.one {α:Type} {R:α→List Value→Prop} {ps:List α} {cs:List Value} {p:α} {v:Value} (hp:R p [v]) (h:Reps R 1 ps cs):Reps R 1 (p::ps) (v::cs):=by
 refine ⟨by simp [h.1],fun j q hq => ?_⟩
 cases j with
 | zero =>
  simp only [List.getElem?_cons_zero,Option.some.injEq] at hq
  subst hq
  simpa using hp
 | succ j =>
  simp only [List.getElem?_cons_succ] at hq
  have h1:=h.2 j q hq
  simpa [Nat.mul_one] using h1
theorem Reps.front {α:Type} {R:α→List Value→Prop} {size:Nat} {ps:List α} {cs c all:List Value} {p:α} (hp:R p c) (hc:c.length=size) (h:Reps R size ps cs) (ha:c++cs=all):Reps R size (p::ps) all:=by
 subst ha
 refine ⟨by rw [List.length_append,hc,h.1,List.length_cons,Nat.succ_mul,Nat.add_comm],fun j q hq => ?_⟩
 cases j with
 | zero =>
  simp only [List.getElem?_cons_zero,Option.some.injEq] at hq
  subst hq
  rw [Nat.zero_mul,List.drop_zero,List.take_append_of_le_length (by omega),List.take_of_length_le (by omega)]
  exact hp
 | succ j =>
  simp only [List.getElem?_cons_succ] at hq
  have h1:=h.2 j q hq
  rw [Nat.succ_mul,List.drop_append,List.drop_of_length_le (by rw [hc];exact Nat.le_add_left _ _),List.nil_append,hc,Nat.add_sub_cancel]
  exact h1
theorem Reps.c2 {α:Type} {R:α→List Value→Prop} {ps:List α} {cs:List Value} {p:α} {va vb:Value} (hp:R p [va,vb]) (h:Reps R 2 ps cs):Reps R 2 (p::ps) (va::vb::cs):=Reps.front hp rfl h rfl
theorem Reps.c3 {α:Type} {R:α→List Value→Prop} {ps:List α} {cs:List Value} {p:α} {va vb vc:Value} (hp:R p [va,vb,vc]) (h:Reps R 3 ps cs):Reps R 3 (p::ps) (va::vb::vc::cs):=Reps.front hp rfl h rfl
theorem Reps.c5 {α:Type} {R:α→List Value→Prop} {ps:List α} {cs:List Value} {p:α} {va vb vc vd ve:Value} (hp:R p [va,vb,vc,vd,ve]) (h:Reps R 5 ps cs):Reps R 5 (p::ps) (va::vb::vc::vd::ve::cs):=Reps.front hp rfl h rfl
end Go.Proofs.YtmhomdohhihlcaaW.PrintWords
namespace Go.Proofs.YtmhomdohhihlcaaW.PrintWords
open Go.RowKit
section
variable {P:Program} {ops:Array Oper} {rest:List Oper} {o:Oper} {a:Act} {Q:Exit→Act→World→Prop} {W:World}
theorem Gq (hw:Region.wanted o (yielded ops a.tmps)=true) (h:wpList P ops Q ({ o with guard:=none }::rest) a W):wpList P ops Q (o::rest) a W:=by
 have h1:Region.wanted { o with guard:=none } (yielded ops a.tmps)=true:=rfl
 unfold wpList at h ⊢
 rw [if_pos h1] at h
 rw [if_pos hw]
 exact h
end
end Go.Proofs.YtmhomdohhihlcaaW.PrintWords
namespace Go.Proofs.YtmhomdohhihlcaaW.PrintWords
open Go.RowKit
namespace Kd
section
variable {α:Type} {d:Kd α} {e base n cap g:Nat} {ok ok' okp:Nat→Prop} {w w1 W:World} {v v1:Value} {xs ys:List α}
theorem qo3 {rows:List (List Value)} (hR:(raw d.sz).R e w1 base (fun k=>k=W.heap.size) v1 rows) (hg:W.grownBy w1 none) (hat:∃ b,v1.ownBlock=some b∧W.heap.size≤b) (hl:rows.length=xs.length) (hf:∀ (j:Nat) (x:α) (c:List Value),xs[j]? = some x→rows[j]? = some c→FK d W okp x c)
  (hok:∀ k,okp k→ok k) (hfresh:ok W.heap.size):N d e w1 base ok v1 xs:=by
 obtain ⟨b,hb,hle⟩:=hat
 refine ⟨fun k hk=>by rw [hR.1 k hk];exact hfresh,rows,hl,qjn hR,fun j x c hx hc => ?_⟩
 refine qdC (qhV (qe6 (hf j x c hx hc)) (fun k hk hlt=>hg.block k hlt (by simp))) (fun k hk=>⟨hok k hk.1,fun he => ?_⟩)
 rw [hb] at he
 injection he with he
 have:=hk.2
 omega
end
section
variable {P:Program} {ops:Array Oper} {rest:List Oper} {o:Oper} {a:Act} {Q:Exit→Act→World→Prop} {Kc:Act→World→Prop} {α:Type}
theorem N_lit (d:Kd α) {w0 W:World} (base e:Nat) (hgd:o.guard=none) {N':Tmp} (_hd:o.dst=some N') {xs:List α} {inner:List Value} {ok okp:Nat→Prop}
  (hrun:(execOp a.eval o).run P W = .ok (.value (.slice (some ⟨W.heap.size,0,none⟩) xs.length xs.length)) (W.alloc (.cells inner.toArray e)))
  (hrep:Reps (FK d W okp) d.sz xs inner) (hok:∀ k,okp k→ok k) (hfresh:ok W.heap.size) (HB:Below base w0 W) (hbase:base≤W.heap.size) (hm:xs.length≤9223372036854775807)
  (h:∀ v1 w1,N d e w1 base ok v1 xs→Below base w0 w1→W.grownBy w1 none→(∃ b,v1.ownBlock=some b∧W.heap.size≤b)→wpList P ops Q rest (a.put o.dst v1) w1) :
  wpList P ops Q (o::rest) a W:=by
 refine R_lit (raw d.sz) base e hgd _hd (xs:=Wp d.sz xs.length inner) (inner:=inner) (ok:=fun k=>k=W.heap.size) (okp:=fun _=>False) (by rw [JF];exact hrun) (qf8 hrep (fun y c hk=>⟨d.K_len (qgD hk),d.K_one (qgD hk)⟩)) (fun _ hk=>hk.elim) rfl HB hbase (by rw [JF];exact hm) ?_
 intro v1 w1 hr hb hg hat
 exact h v1 w1 (qo3 hr hg hat (JF _ _ _) (fun j y c hy hc=>by rw [Xj hc];exact hrep.2 j y hy) hok hfresh) hb hg hat
end
end Kd
end Go.Proofs.YtmhomdohhihlcaaW.PrintWords
namespace Go.Proofs.YtmhomdohhihlcaaW.PrintMore
open Go.RowKit Go.Proofs.YtmhomdohhihlcaaW.PrintWords
namespace Kd
open Go.Proofs.YtmhomdohhihlcaaW.PrintWords.Kd
section
variable {α:Type} {d:Kd α} {e base g N:Nat} {ok:Nat→Prop} {W w1:World} {u v:Value} {xs:List α}
theorem R_old (hu:d.R e W base ok u xs) (hb:Below W.heap.size W w1):d.R e w1 base (fun k=>ok k∧k<W.heap.size) u xs :=
 R_mono (R_below (R_bound hu) hb) (fun _ h=>⟨h.1,h.2.2.1⟩)
theorem R_told (h:d.R e w1 base (fun k=>ok k∧k<N) u xs) (hbase:∀ k,v.ownBlock=some k→N≤k):d.R e w1 base (fun k=>(ok k∧some k≠v.ownBlock)∧k<N) u xs :=
 R_mono h (fun k hk=>⟨⟨hk.1,fun e=>Nat.lt_irrefl _ (Nat.lt_of_lt_of_le hk.2 (hbase k e.symm))⟩,hk.2⟩)
end
end Kd
theorem Yn (k k':IntKind) (x y:Int):Builtin.max2 (.int k x) (.int k' y)=pure (.int k (if x<y then y else x)):=by simp only [Builtin.max2,gt_iff_lt]
theorem Yp (k k':IntKind) (x y:Int):Builtin.min2 (.int k x) (.int k' y)=pure (.int k (if y<x then y else x)):=by simp only [Builtin.min2]
theorem YA (ats:Array TypeId) (ty:TypeId) (a b:Value):Builtin.max_ ats ty #[a,b]=(Builtin.max2 a b >>= fun s=>pure s):=by simp only [Builtin.max_,List.foldlM_cons,List.foldlM_nil]
theorem YC (ats:Array TypeId) (ty:TypeId) (a b:Value):Builtin.min_ ats ty #[a,b]=(Builtin.min2 a b >>= fun s=>pure s):=by simp only [Builtin.min_,List.foldlM_cons,List.foldlM_nil]
theorem Yb (ats:Array TypeId) (ty:TypeId) (a b c:Value):Builtin.max_ ats ty #[a,b,c]=(Builtin.max2 a b >>= fun s=>Builtin.max2 s c >>= fun s=>pure s):=by simp only [Builtin.max_,List.foldlM_cons,List.foldlM_nil]
theorem Yc (ats:Array TypeId) (ty:TypeId) (a b c:Value):Builtin.min_ ats ty #[a,b,c]=(Builtin.min2 a b >>= fun s=>Builtin.min2 s c >>= fun s=>pure s):=by simp only [Builtin.min_,List.foldlM_cons,List.foldlM_nil]
theorem Yo (ats:Array TypeId) (ty:TypeId) (a b c d:Value):Builtin.max_ ats ty #[a,b,c,d]=(Builtin.max2 a b >>= fun s=>Builtin.max2 s c >>= fun s=>Builtin.max2 s d >>= fun s=>pure s):=by simp only [Builtin.max_,List.foldlM_cons,List.foldlM_nil]
theorem Yq (ats:Array TypeId) (ty:TypeId) (a b c d:Value):Builtin.min_ ats ty #[a,b,c,d]=(Builtin.min2 a b >>= fun s=>Builtin.min2 s c >>= fun s=>Builtin.min2 s d >>= fun s=>pure s):=by simp only [Builtin.min_,List.foldlM_cons,List.foldlM_nil]
end Go.Proofs.YtmhomdohhihlcaaW.PrintMore
namespace Go.Proofs.YtmhomdohhihlcaaW.PrintWords
open Go.RowKit
section
variable {P:Program} {ops:Array Oper} {rest:List Oper} {o:Oper} {a:Act} {Q:Exit→Act→World→Prop} {W:World}
theorem Qx {f:FuncId} {aas:Array Operand} {ts:Array TypeId} (_ho:o.op = .call { callee:=.value (.func f),args:=aas,argTypes:=ts }) (h:wpList P ops Q (o::rest) a W):wpList P ops Q (o::rest) a W:=h
theorem qdU {b:Builtin} {xs:Array Operand} {ts:Array TypeId} (_ho:o.op = .call { callee:=.builtin b,args:=xs,argTypes:=ts }) (h:wpList P ops Q (o::rest) a W):wpList P ops Q (o::rest) a W:=h
end
def mn (a b:Int):Int:=if b<a then b else a
def shl (k:IntKind) (x y:Int):Int:=k.wrap (x*2 ^ min y.toNat k.bits)
def shr (k:IntKind) (x y:Int):Int:=x / 2 ^ min y.toNat k.bits
theorem qdr {k:IntKind} {x y j:Int} (h:shl k x y=j) (hy:y≤k.bits):k.wrap (x*2 ^ y.toNat)=j:=by rw [← h];unfold shl;rw [Nat.min_eq_left (by omega)]
theorem qds {k:IntKind} {x y j:Int} (h:shr k x y=j) (hy:y≤k.bits):x / 2 ^ y.toNat=j:=by rw [← h];unfold shr;rw [Nat.min_eq_left (by omega)]
theorem qgQ (w:World) (n:Nat):w.drewN n=w.drewN n:=rfl
end Go.Proofs.YtmhomdohhihlcaaW.PrintWords
namespace Go.Proofs.YtmhomdohhihlcaaW.PrintWords
open Go.RowKit
namespace Kd
def V {α:Type} (d:Kd α) (_e:Nat) (W:World) (_base:Nat) (ok:Nat→Prop) (v:Value) (xs:List α):Prop:=∃ A c,v = .slice A xs.length c∧xs.length≤c∧F d W ok A xs.length xs
section
variable {α β:Type} {d:Kd α} {e base base' n m c g N' lo hi:Nat} {ok ok' S:Nat→Prop} {w W w1:World} {A:Option Addr} {ad:Addr} {u v v1:Value} {xs:List α}
theorem qdi (h:V d e W base ok v xs) (hF:∀ A,F d W ok A xs.length xs→F d w1 ok' A xs.length xs):V d e w1 base' ok' v xs:=by
 obtain ⟨A,c,hv,hl,hf⟩:=h
 exact ⟨A,c,hv,hl,hF A hf⟩
theorem V_slice (h:V d e W base ok v xs):∃ A c,v = .slice A xs.length c:=by
 obtain ⟨A,c,hv,_⟩:=h
 exact ⟨A,c,hv⟩
theorem V_at (h:V d e W base ok (.slice A n c) xs):n=xs.length∧n≤c∧F d W ok A xs.length xs:=by
 obtain ⟨A',c',hv,hl,hf⟩:=h
 injection hv with ha hn hc
 subst ha;subst hc
 exact ⟨hn,by rw [hn];exact hl,hf⟩
theorem V_reads' (h:V d e W base ok (.slice A n c) xs):n=xs.length∧n≤c∧d.C W A xs.length xs:=⟨(V_at h).1,(V_at h).2.1,F_now (V_at h).2.2⟩
theorem V_nil (d:Kd α) (e:Nat) (W:World) (base:Nat) (ok:Nat→Prop):V d e W base ok (.slice none 0 0) []:=⟨none,0,rfl,Nat.le_refl _,qqx d W ok⟩
theorem R_V (h:d.R e W base ok v xs):V d e W base' ok v xs:=by
 obtain ⟨A,c,rfl⟩:=R_slice h
 exact ⟨A,c,rfl,(R_reads' h).2.1,R_F h⟩
theorem V_mono (h:V d e W base ok v xs) (hok:∀ k,ok k→ok' k):V d e W base ok' v xs:=qdi h (fun _ hf=>qjM hf hok)
theorem V_lower (h:V d e W base ok v xs) (_:base'≤base):V d e W base' ok v xs:=h
theorem V_below (h:V d e W base ok v xs) (hb:Below W.heap.size W w1):V d e w1 base ok v xs:=qdi h (fun _ hf=>qbl hf hb)
theorem V_alloc (h:V d e W base ok v xs) (o:Obj):V d e (W.alloc o) base ok v xs:=qdi h (fun _ hf=>qlA hf o)
theorem V_drew (h:V d e W base ok v xs):V d e W.drew base ok v xs:=qdi h (fun _ hf=>qoT hf)
theorem V_drewN (h:V d e W base ok v xs) (m:Nat):V d e (W.drewN m) base ok v xs:=qdi h (fun _ hf=>qlB hf m)
theorem V_elder' (h:V d e W base ok v xs) (hbase:∀ k,u.ownBlock=some k→W.heap.size≤k) (hb:Below W.heap.size W w1):V d e w1 base (fun k=>ok k∧some k≠u.ownBlock) v xs:=qdi h (fun _ hf=>qjL hf hbase hb)
theorem FK_slice_mk {l:List α} (hl:l.length≤c) (hf:F d W ok A l.length l):FK (Kd.slice e d) W ok l [.slice A l.length c]:=fun W' hW=>⟨A,c,rfl,hl,hf W' hW⟩
theorem R_newM {M:Nat→Prop} (h:d.R e w1 W.heap.size ok v xs) (hle:w.heap.size≤W.heap.size) (hM:∀ k,w.heap.size≤k→M k):d.R e w1 W.heap.size (fun k=>M k∧ok k) v xs:=R_mono (R_bound h) (fun k hk=>⟨hM k (Nat.le_trans hle hk.2.1),hk.1⟩)
end
end Kd
end Go.Proofs.YtmhomdohhihlcaaW.PrintWords
namespace Go.Proofs.Ytmhomdohhihlcaa.P
open Go.RowKit Go.Proofs.YtmhomdohhihlcaaW.PrintWords Go.Proofs.YtmhomdohhihlcaaW.PrintLast Go.Proofs.YtmhomdohhihlcaaW.PrintMore
section
attribute [local go_sem] Yn Yp YA YC Yb Yc Yo Yq
def errW:Option Int→Value
 | none => .nilIface
 | some c => .iface 0 (.int .i64 c)
theorem Qq:errW none = .nilIface:=rfl
theorem Qr (c:Int):errW (some c) = .iface 0 (.int .i64 c):=rfl
theorem Xc:(Try.prog.info? 3).map (fun i=>(i.zero,i.size,i.bytes))=some (some (.int .i64 0),1,8):=by kernel_rfl
theorem qs9:(Try.prog.info? 4).map (fun i=>(i.zero,i.size,i.bytes))=some (some (.bool false),1,1):=by kernel_rfl
theorem qkU:(Try.prog.info? 25).map (fun i=>(i.zero,i.size,i.bytes))=some (some (.agg #[(.int .i64 0),(.int .i64 0)]),2,16):=by kernel_rfl
structure S25 where
 f0:Int
 f1:Int
def z25:S25:=⟨(0:Int),(0:Int)⟩
def k25:Kd S25:=Kd.iso (Kd.pair (Kd.int .i64) (Kd.int .i64)) (fun x:S25=>(x.f0,x.f1))
theorem qfU {w:World} {x:S25} {cs:List Value} (h:k25.K w x cs):cs=[.int .i64 x.f0,.int .i64 x.f1]:=by
 obtain ⟨_,_,rfl,rfl,rfl⟩:=h
 exact rfl
theorem qjh {w:World} {base:Nat} {ok:Nat→Prop} {x:S25} {cs:List Value} (h:k25.M w base ok x cs):cs=[.int .i64 x.f0,.int .i64 x.f1]:=by
 obtain ⟨_,_,rfl,rfl,rfl⟩:=h
 exact rfl
theorem qpL (w:World) (x:S25)  : k25.K w x [.int .i64 x.f0,.int .i64 x.f1]:=⟨[.int .i64 x.f0],[.int .i64 x.f1],rfl,rfl,rfl⟩
theorem Ow (w:World) (base:Nat) (ok:Nat→Prop) (x:S25)  : k25.M w base ok x [.int .i64 x.f0,.int .i64 x.f1]:=⟨[.int .i64 x.f0],[.int .i64 x.f1],rfl,rfl,rfl⟩
def YM (xs:List S25) (i:Int):S25:=xs.getD i.toNat z25
theorem UT {w:World} {A:Option Addr} {n:Nat} {xs:List S25} (h:Kd.C k25 w A n xs) (i:Int) (h0:0≤i) (h1:i<n):∃ ad ,A=some ad∧w.cell? (ad.add (i.toNat*2))=some (.int .i64 (YM xs i).f0)∧w.cell? ⟨(ad.add (i.toNat*2)).block,(ad.add (i.toNat*2)).off+1,none⟩=some (.int .i64 (YM xs i).f1):=by
 obtain ⟨ad,c,e,_,hK,hc0⟩:=Kd.C_get h z25 i h0 h1
 have hc:∀ j u,c[j]? = some u→w.cell? (ad.add (i.toNat*2+j))=some u:=hc0
 obtain rfl:=qfU hK
 exact ⟨ad,e,hc 0 _ rfl,by rw [← Kr _ _ 1 (by omega)];exact hc 1 _ rfl⟩
structure S68 where
 f0:Int
 f1:S25
def z68:S68:=⟨(0:Int),z25⟩
def k68:Kd S68:=Kd.iso (Kd.pair (Kd.int .i64) k25) (fun x:S68=>(x.f0,x.f1))
theorem qkW {w:World} {x:S68} {cs:List Value} (h:k68.K w x cs):cs=[.int .i64 x.f0,.int .i64 x.f1.f0,.int .i64 x.f1.f1]:=by
 obtain ⟨_,_,rfl,rfl,s1⟩:=h
 obtain rfl:=qfU s1
 exact rfl
theorem qen (w:World) (base:Nat) (ok:Nat→Prop) (x:S68)  : k68.M w base ok x [.int .i64 x.f0,.int .i64 x.f1.f0,.int .i64 x.f1.f1]:=⟨[.int .i64 x.f0],[.int .i64 x.f1.f0,.int .i64 x.f1.f1],rfl,rfl,(Ow w base ok x.f1 )⟩
def Ye (xs:List S68) (i:Int):S68:=xs.getD i.toNat z68
theorem qdO {w:World} {A:Option Addr} {n:Nat} {xs:List S68} (h:Kd.C k68 w A n xs) (i:Int) (h0:0≤i) (h1:i<n):∃ ad ,A=some ad∧w.cell? (ad.add (i.toNat*3))=some (.int .i64 (Ye xs i).f0)∧w.cell? ⟨(ad.add (i.toNat*3)).block,(ad.add (i.toNat*3)).off+1,none⟩=some (.int .i64 (Ye xs i).f1.f0)∧w.cell? ⟨(ad.add (i.toNat*3)).block,(ad.add (i.toNat*3)).off+2,none⟩=some (.int .i64 (Ye xs i).f1.f1):=by
 obtain ⟨ad,c,e,_,hK,hc0⟩:=Kd.C_get h z68 i h0 h1
 have hc:∀ j u,c[j]? = some u→w.cell? (ad.add (i.toNat*3+j))=some u:=hc0
 obtain rfl:=qkW hK
 exact ⟨ad,e,hc 0 _ rfl,by rw [← Kr _ _ 1 (by omega)];exact hc 1 _ rfl,by rw [← Kr _ _ 2 (by omega)];exact hc 2 _ rfl⟩
def Jr (xs:List (List S25)) (i:Int):(List S25):=xs.getD i.toNat ([]:List S25)
theorem qj9 {w:World} {A:Option Addr} {n:Nat} {xs:List (List S25)} (h:Kd.C (Kd.slice 25 k25) w A n xs) (i:Int) (h0:0≤i) (h1:i<n):∃ ad A0 c0,A=some ad∧w.cell? (ad.add i.toNat)=some (.slice A0 (Jr xs i).length c0)∧(Jr xs i).length≤c0∧k25.C w A0 (Jr xs i).length (Jr xs i):=by
 obtain ⟨ad,c,e,_,hK,hc0⟩:=Kd.C_get h ([]:List S25) i h0 h1
 have hc:∀ j u,c[j]? = some u→w.cell? (ad.add (i.toNat*1+j))=some u:=hc0
 obtain ⟨A0,c0,rfl,l0,g0⟩:=hK
 exact ⟨ad,A0,c0,e,by have hq:=hc 0 _ rfl;rwa [Nat.mul_one,Nat.add_zero] at hq,l0,g0⟩
def QB (xs:List (List Int)) (i:Int):(List Int):=xs.getD i.toNat ([]:List Int)
theorem Wm {w:World} {A:Option Addr} {n:Nat} {xs:List (List Int)} (h:Kd.C (Kd.slice 3 (Kd.int .i64)) w A n xs) (i:Int) (h0:0≤i) (h1:i<n):∃ ad A0 c0,A=some ad∧w.cell? (ad.add i.toNat)=some (.slice A0 (QB xs i).length c0)∧(QB xs i).length≤c0∧(Kd.int .i64).C w A0 (QB xs i).length (QB xs i):=by
 obtain ⟨ad,c,e,_,hK,hc0⟩:=Kd.C_get h ([]:List Int) i h0 h1
 have hc:∀ j u,c[j]? = some u→w.cell? (ad.add (i.toNat*1+j))=some u:=hc0
 obtain ⟨A0,c0,rfl,l0,g0⟩:=hK
 exact ⟨ad,A0,c0,e,by have hq:=hc 0 _ rfl;rwa [Nat.mul_one,Nat.add_zero] at hq,l0,g0⟩
structure S39 where
 f0:(List Int)
 f1:(List Int)
 f2:(List Int)
 f3:Int
 f4:Int
def z39:S39:=⟨([]:List Int),([]:List Int),([]:List Int),(0:Int),(0:Int)⟩
def k39:Kd S39:=Kd.iso (Kd.pair (Kd.slice 3 (Kd.int .i64)) (Kd.pair (Kd.slice 3 (Kd.int .i64)) (Kd.pair (Kd.slice 3 (Kd.int .i64)) (Kd.pair (Kd.int .i64) (Kd.int .i64))))) (fun x:S39=>(x.f0,x.f1,x.f2,x.f3,x.f4))
theorem qkV {w:World} {x:S39} {cs:List Value} (h:k39.K w x cs):∃ A0 c0 A1 c1 A2 c2,cs=[.slice A0 x.f0.length c0,.slice A1 x.f1.length c1,.slice A2 x.f2.length c2,.int .i64 x.f3,.int .i64 x.f4]∧x.f0.length≤c0∧(Kd.int .i64).C w A0 x.f0.length x.f0∧x.f1.length≤c1∧(Kd.int .i64).C w A1 x.f1.length x.f1∧x.f2.length≤c2∧(Kd.int .i64).C w A2 x.f2.length x.f2:=by
 obtain ⟨_,_,rfl,⟨A0,c0,rfl,l0,g0⟩,⟨_,_,rfl,⟨A1,c1,rfl,l1,g1⟩,⟨_,_,rfl,⟨A2,c2,rfl,l2,g2⟩,⟨_,_,rfl,rfl,rfl⟩⟩⟩⟩:=h
 exact ⟨A0,c0,A1,c1,A2,c2,rfl,l0,g0,l1,g1,l2,g2⟩
theorem qpM (w:World) (x:S39) {A0:Option Addr} {c0:Nat} (l0:x.f0.length≤c0) (g0:(Kd.int .i64).C w A0 x.f0.length x.f0) {A1:Option Addr} {c1:Nat} (l1:x.f1.length≤c1) (g1:(Kd.int .i64).C w A1 x.f1.length x.f1) {A2:Option Addr} {c2:Nat} (l2:x.f2.length≤c2) (g2:(Kd.int .i64).C w A2 x.f2.length x.f2):k39.K w x [.slice A0 x.f0.length c0,.slice A1 x.f1.length c1,.slice A2 x.f2.length c2,.int .i64 x.f3,.int .i64 x.f4]:=⟨[.slice A0 x.f0.length c0],[.slice A1 x.f1.length c1,.slice A2 x.f2.length c2,.int .i64 x.f3,.int .i64 x.f4],rfl,⟨A0,c0,rfl,l0,g0⟩,⟨[.slice A1 x.f1.length c1],[.slice A2 x.f2.length c2,.int .i64 x.f3,.int .i64 x.f4],rfl,⟨A1,c1,rfl,l1,g1⟩,⟨[.slice A2 x.f2.length c2],[.int .i64 x.f3,.int .i64 x.f4],rfl,⟨A2,c2,rfl,l2,g2⟩,⟨[.int .i64 x.f3],[.int .i64 x.f4],rfl,rfl,rfl⟩⟩⟩⟩
theorem qiE (W:World) (ok:Nat→Prop) (x:S39) {A0:Option Addr} {c0:Nat} (l0:x.f0.length≤c0) (g0:Kd.F (Kd.int .i64) W ok A0 x.f0.length x.f0) {A1:Option Addr} {c1:Nat} (l1:x.f1.length≤c1) (g1:Kd.F (Kd.int .i64) W ok A1 x.f1.length x.f1) {A2:Option Addr} {c2:Nat} (l2:x.f2.length≤c2) (g2:Kd.F (Kd.int .i64) W ok A2 x.f2.length x.f2):Kd.FK k39 W ok x [.slice A0 x.f0.length c0,.slice A1 x.f1.length c1,.slice A2 x.f2.length c2,.int .i64 x.f3,.int .i64 x.f4]:=fun W2 hW=>qpM W2 x l0 (g0 W2 hW) l1 (g1 W2 hW) l2 (g2 W2 hW)
def Qc (xs:List S39) (i:Int):S39:=xs.getD i.toNat z39
theorem qgJ {w:World} {A:Option Addr} {n:Nat} {xs:List S39} (h:Kd.C k39 w A n xs) (i:Int) (h0:0≤i) (h1:i<n):∃ ad A0 c0 A1 c1 A2 c2,A=some ad∧w.cell? (ad.add (i.toNat*5))=some (.slice A0 (Qc xs i).f0.length c0)∧w.cell? ⟨(ad.add (i.toNat*5)).block,(ad.add (i.toNat*5)).off+1,none⟩=some (.slice A1 (Qc xs i).f1.length c1)∧w.cell? ⟨(ad.add (i.toNat*5)).block,(ad.add (i.toNat*5)).off+2,none⟩=some (.slice A2 (Qc xs i).f2.length c2)∧w.cell? ⟨(ad.add (i.toNat*5)).block,(ad.add (i.toNat*5)).off+3,none⟩=some (.int .i64 (Qc xs i).f3)∧w.cell? ⟨(ad.add (i.toNat*5)).block,(ad.add (i.toNat*5)).off+4,none⟩=some (.int .i64 (Qc xs i).f4)∧(Qc xs i).f0.length≤c0∧(Kd.int .i64).C w A0 (Qc xs i).f0.length (Qc xs i).f0∧(Qc xs i).f1.length≤c1∧(Kd.int .i64).C w A1 (Qc xs i).f1.length (Qc xs i).f1∧(Qc xs i).f2.length≤c2∧(Kd.int .i64).C w A2 (Qc xs i).f2.length (Qc xs i).f2:=by
 obtain ⟨ad,c,e,_,hK,hc0⟩:=Kd.C_get h z39 i h0 h1
 have hc:∀ j u,c[j]? = some u→w.cell? (ad.add (i.toNat*5+j))=some u:=hc0
 obtain ⟨A0,c0,A1,c1,A2,c2,rfl,l0,g0,l1,g1,l2,g2⟩:=qkV hK
 exact ⟨ad,A0,c0,A1,c1,A2,c2,e,hc 0 _ rfl,by rw [← Kr _ _ 1 (by omega)];exact hc 1 _ rfl,by rw [← Kr _ _ 2 (by omega)];exact hc 2 _ rfl,by rw [← Kr _ _ 3 (by omega)];exact hc 3 _ rfl,by rw [← Kr _ _ 4 (by omega)];exact hc 4 _ rfl,l0,g0,l1,g1,l2,g2⟩
def QE (xs:List (List (List Int))) (i:Int):(List (List Int)):=xs.getD i.toNat ([]:List (List Int))
theorem qka {w:World} {A:Option Addr} {n:Nat} {xs:List (List (List Int))} (h:Kd.C (Kd.slice 37 (Kd.slice 3 (Kd.int .i64))) w A n xs) (i:Int) (h0:0≤i) (h1:i<n):∃ ad A0 c0,A=some ad∧w.cell? (ad.add i.toNat)=some (.slice A0 (QE xs i).length c0)∧(QE xs i).length≤c0∧(Kd.slice 3 (Kd.int .i64)).C w A0 (QE xs i).length (QE xs i):=by
 obtain ⟨ad,c,e,_,hK,hc0⟩:=Kd.C_get h ([]:List (List Int)) i h0 h1
 have hc:∀ j u,c[j]? = some u→w.cell? (ad.add (i.toNat*1+j))=some u:=hc0
 obtain ⟨A0,c0,rfl,l0,g0⟩:=hK
 exact ⟨ad,A0,c0,e,by have hq:=hc 0 _ rfl;rwa [Nat.mul_one,Nat.add_zero] at hq,l0,g0⟩
structure YQ where
 f0:Int
 f1:Int
def qth:YQ:=⟨(0:Int),(0:Int)⟩
def W7:Kd YQ:=Kd.iso (Kd.pair (Kd.int .i64) (Kd.int .i64)) (fun x:YQ=>(x.f0,x.f1))
theorem qjg {w:World} {x:YQ} {cs:List Value} (h:W7.K w x cs):cs=[.int .i64 x.f0,.int .i64 x.f1]:=by
 obtain ⟨_,_,rfl,rfl,rfl⟩:=h
 exact rfl
theorem qni (w:World) (x:YQ)  : W7.K w x [.int .i64 x.f0,.int .i64 x.f1]:=⟨[.int .i64 x.f0],[.int .i64 x.f1],rfl,rfl,rfl⟩
theorem qau (w:World) (base:Nat) (ok:Nat→Prop) (x:YQ)  : W7.M w base ok x [.int .i64 x.f0,.int .i64 x.f1]:=⟨[.int .i64 x.f0],[.int .i64 x.f1],rfl,rfl,rfl⟩
def ZM (xs:List YQ) (i:Int):YQ:=xs.getD i.toNat qth
theorem qbo {w:World} {A:Option Addr} {n:Nat} {xs:List YQ} (h:Kd.C W7 w A n xs) (i:Int) (h0:0≤i) (h1:i<n):∃ ad ,A=some ad∧w.cell? (ad.add (i.toNat*2))=some (.int .i64 (ZM xs i).f0)∧w.cell? ⟨(ad.add (i.toNat*2)).block,(ad.add (i.toNat*2)).off+1,none⟩=some (.int .i64 (ZM xs i).f1):=by
 obtain ⟨ad,c,e,_,hK,hc0⟩:=Kd.C_get h qth i h0 h1
 have hc:∀ j u,c[j]? = some u→w.cell? (ad.add (i.toNat*2+j))=some u:=hc0
 obtain rfl:=qjg hK
 exact ⟨ad,e,hc 0 _ rfl,by rw [← Kr _ _ 1 (by omega)];exact hc 1 _ rfl⟩
end
section
attribute [local go_sem] Yn Yp YA YC Yb Yc Yo Yq
def Zj.f (a0:Int) (a1:Int):Option (Int):=if a1=0 then (none) else (if (Int.tmod a0 a1)<0 then (some (wrap64 ((Int.tmod a0 a1)+a1))) else (some (Int.tmod a0 a1)))
set_option maxHeartbeats 8000000 in
set_option maxRecDepth 100000 in
theorem Zj.calls (a0:Int) (a1:Int) (r:Int) (w:World) (h:Zj.f a0 a1=some r) :
  Calls Try.prog 36 #[.int .i64 a0,.int .i64 a1] w fun e w'=>e = .returned (.int .i64 r)∧Yg w w':=by
 have H:(if a1=0 then (none) else (if (Int.tmod a0 a1)<0 then (some (wrap64 ((Int.tmod a0 a1)+a1))) else (some (Int.tmod a0 a1))))=some r:=h
 clear h
 by_cases c3:a1=0
 ·
  rw [if_pos c3] at H
  exact absurd H (by simp)
 rw [if_neg c3] at H
 have c3b0:(a1==0)=false:=beq_eq_false_iff_ne.mpr c3
 have c3b1:(a1 != 0)=true:=bne_iff_ne.mpr c3
 by_cases c4:(Int.tmod a0 a1)<0
 ·
  rw [if_pos c4] at H
  have c4b0:decide ((Int.tmod a0 a1)<0)=true:=decide_eq_true c4
  clear c4
  obtain rfl:=Option.some.inj H
  go_enter Try.func36,Try.ntmps36
  go_wp2
  go_ret
  exact ⟨by first|rfl|(simp;done)|(simp [*];done),by repeat (first|exact Yg.refl _|apply Yg.step)⟩
 rw [if_neg c4] at H
 have c4b0:decide ((Int.tmod a0 a1)<0)=false:=decide_eq_false c4
 clear c4
 obtain rfl:=Option.some.inj H
 go_enter Try.func36,Try.ntmps36
 go_wp2
 go_ret
 exact ⟨by first|rfl|(simp;done)|(simp [*];done),by repeat (first|exact Yg.refl _|apply Yg.step)⟩
end
section
def ar6 (n:List Int):List Value:=[.int .i64 (rd n 0),.int .i64 (rd n 1),.int .i64 (rd n 2),.int .i64 (rd n 3),.int .i64 (rd n 4),.int .i64 (rd n 5)]
def Is6 (W:World) (g:Nat) (n:List Int):Prop:=W.heap[g]? = some (.cells (ar6 n).toArray 115 (0,0))
namespace Is6
variable {W:World} {g:Nat} {n:List Int}
theorem lt (h:Is6 W g n):g<W.heap.size:=QL h
theorem cells (h:Is6 W g n):W.cell? ⟨g,0,none⟩=some (.int .i64 (rd n 0))∧W.cell? ⟨g,1,none⟩=some (.int .i64 (rd n 1))∧W.cell? ⟨g,2,none⟩=some (.int .i64 (rd n 2))∧W.cell? ⟨g,3,none⟩=some (.int .i64 (rd n 3))∧W.cell? ⟨g,4,none⟩=some (.int .i64 (rd n 4))∧W.cell? ⟨g,5,none⟩=some (.int .i64 (rd n 5)) :=
 ⟨(Q8 h 0).trans rfl,(Q8 h 1).trans rfl,(Q8 h 2).trans rfl,(Q8 h 3).trans rfl,(Q8 h 4).trans rfl,(Q8 h 5).trans rfl⟩
theorem frozen (h:Is6 W g n):W.frozen? ⟨g,0,none⟩=false∧W.frozen? ⟨g,1,none⟩=false∧W.frozen? ⟨g,2,none⟩=false∧W.frozen? ⟨g,3,none⟩=false∧W.frozen? ⟨g,4,none⟩=false∧W.frozen? ⟨g,5,none⟩=false :=
 ⟨Q9 h 0,Q9 h 1,Q9 h 2,Q9 h 3,Q9 h 4,Q9 h 5⟩
theorem cell (h:Is6 W g n) (i:Nat) (hi:i<6):W.cell? ⟨g,i,none⟩=some (.int .i64 (rd n i)):=by
 rw [Q8 h i]
 match i,hi with
 | 0,_=>rfl
 | 1,_=>rfl
 | 2,_=>rfl
 | 3,_=>rfl
 | 4,_=>rfl
 | 5,_=>rfl
 | i+6,hi=>omega
theorem celli (h:Is6 W g n) (i:Int) (h0:0≤i) (h6:i<6):W.cell? ⟨g,i.toNat,none⟩=some (.int .i64 (rd n i)):=by
 have e:=h.cell i.toNat (by omega)
 rwa [show ((i.toNat:Nat):Int)=i by omega] at e
theorem frz (h:Is6 W g n) (i:Nat):W.frozen? ⟨g,i,none⟩=false:=Q9 h i
theorem qnF (n:List Int) (hn:n.length=6) (i:Nat) (hi:i<6) (x:Int):(ar6 n).toArray.setIfInBounds i (.int .i64 x)=(ar6 (n.set i x)).toArray:=by
 match n,hn with
 | [a,b,c,d,e,f],_ =>
  match i,hi with
  | 0,_=>rfl
  | 1,_=>rfl
  | 2,_=>rfl
  | 3,_=>rfl
  | 4,_=>rfl
  | 5,_=>rfl
  | i+6,hi=>omega
theorem set (h:Is6 W g n) (hn:n.length=6) (i:Nat) (hi:i<6) (x:Int):Is6 (W.setCell ⟨g,i,none⟩ (.int .i64 x)) g (n.set i x) :=
 Qu h i _ (qnF n hn i hi x)
theorem seti (h:Is6 W g n) (hn:n.length=6) (i:Int) (h0:0≤i) (h6:i<6) (x:Int):Is6 (W.setCell ⟨g,i.toNat,none⟩ (.int .i64 x)) g (n.set i.toNat x):=h.set hn i.toNat (by omega) x
theorem far (h:Is6 W g n) {p:Addr} (hp:g≠p.block) (u:Value):Is6 (W.setCell p u) g n:=Qk h hp u
theorem alloc (h:Is6 W g n) (o:Obj):Is6 (W.alloc o) g n:=Q2 h o
theorem drew (h:Is6 W g n):Is6 W.drew g n:=h
theorem drewN (h:Is6 W g n) (m:Nat):Is6 (W.drewN m) g n:=h
theorem below {W1:World} (h:Is6 W g n) (hb:Below W.heap.size W W1):Is6 W1 g n:=Qe h hb
theorem put6 (h:Is6 W g n) (m:List Int):Is6 ((((((W.setCell ⟨g,0,none⟩ (.int .i64 (rd m 0))).setCell ⟨g,1,none⟩ (.int .i64 (rd m 1))).setCell ⟨g,2,none⟩ (.int .i64 (rd m 2))).setCell ⟨g,3,none⟩ (.int .i64 (rd m 3))).setCell ⟨g,4,none⟩ (.int .i64 (rd m 4))).setCell ⟨g,5,none⟩ (.int .i64 (rd m 5))) g m:=by
 refine Qu (Qu (Qu (Qu (Qu (Qu h 0 _ rfl) 1 _ rfl) 2 _ rfl) 3 _ rfl) 4 _ rfl) 5 _ ?_
 rfl
end Is6
theorem qg3:∀ q,q∈3::(Kd.int .i64).E→q≠115:=by
 intro q hq
 have hq3:q=3:=by simpa [Kd.int,Kd.scalar] using hq
 omega
theorem qj1 {W:World} {g b:Nat} {n xs:List Int} {v:Value} (h:Kd.R (Kd.int .i64) 3 W b (fun _=>True) v xs) (h6:Is6 W g n) (j:Nat) (u:Value):Kd.R (Kd.int .i64) 3 (W.setCell ⟨g,j,none⟩ u) b (fun _=>True) v xs :=
 Kd.R_mono (Kd.R_far (p:=⟨g,j,none⟩) (Kd.R_types h h6 qg3) (fun _ h=>h.2) u) (fun _ _=>trivial)
theorem qhE (l:List Int) (h:l.length≤6):splice (ar6 []) 0 (l.map (Value.int .i64))=ar6 l:=by
 match l,h with
 | [],_=>rfl
 | [_],_=>rfl
 | [_,_],_=>rfl
 | [_,_,_],_=>rfl
 | [_,_,_,_],_=>rfl
 | [_,_,_,_,_],_=>rfl
 | [_,_,_,_,_,_],_=>rfl
 | _::_::_::_::_::_::_::_,h=>simp at h
theorem XA {w W:World} {A:Option Addr} {l:List Int} (h:Kd.C (Kd.int .i64) w A l.length l) (hb:Below w.heap.size w W) (h0:0<(l.map (Value.int .i64)).length):∃ ad,A=some ad ∧ ∀ j v,(l.map (Value.int .i64))[j]? = some v→W.cell? (ad.add j)=some v:=by
 have h:=Kd.C_below h hb
 rw [List.length_map] at h0
 obtain ⟨ad,e,hc⟩:=Kd.at_int h 0 (by omega) (by omega)
 refine ⟨ad,e,fun j v hv => ?_⟩
 have hj:j<l.length:=by simpa using (List.getElem?_eq_some_iff.1 hv).1
 obtain ⟨ad',e',hc'⟩:=Kd.at_int h j (by omega) (by omega)
 rw [e] at e'
 cases e'
 rw [List.getElem?_map,List.getElem?_eq_getElem hj] at hv
 simp only [Option.map_some,Option.some.injEq] at hv
 rw [← hv]
 rw [show ((j:Int).toNat)=j by simp] at hc'
 rw [hc']
 simp [rd,List.getD_eq_getElem?_getD,List.getElem?_eq_getElem hj]
theorem qnm {l:List Int} (hl:l.length≤6):(l.map (Value.int .i64)).length=Nat.min l.length 6:=by rw [List.length_map];exact (Nat.min_eq_left hl).symm
theorem qnn (l:List Int):∀ v∈l.map (Value.int .i64),v.oneCell'=true:=by intro v hv;obtain ⟨x,_,rfl⟩:=List.mem_map.1 hv;rfl
theorem UG {P:Program} (t e:TypeId) {i:TypeInfo} (ht:P.underlying t=some (.slice e)) (hi:P.info? e=some i) (A:Option Addr) (n c:Nat) (hc:n≤c) :
  ∀ W:World,(Instr.slice t (.slice A n c) none (some (.int .i64 n)) (some (.int .i64 n))).run P W = .ok (.slice A n n) W:=by
 intro W
 have hel:P.elem t=e:=by simp [Program.elem,ht]
 have hu:P.underlying t=some (.slice (P.elem t)):=by rw [hel];exact ht
 have ha:(A.map fun x=>x.add 0)=A:=by cases A<;>simp [Addr.add]
 rw [run_slice_hm W t A n c hu .i64 .i64 n n (by omega) (by omega) (by omega),hel]
 simp [sizeOf,typeInfo,hi,sliced,Result.andThen,ha]
theorem qj0 {α:Type} {d:Kd α} {e base base' n c:Nat} {ok:Nat→Prop} {W:World} {A:Option Addr} {xs:List α} (h:d.R e W base ok (.slice A n c) xs) (m:Nat) (hm:m=xs.length):Kd.V d e W base' ok (.slice A m m) xs:=by
 subst hm
 have h2:=Kd.R_reads' h
 have hf:=Kd.R_F h
 rw [h2.1] at hf
 exact ⟨A,xs.length,rfl,Nat.le_refl _,hf⟩
theorem qdV {P : Program} {ops : Array Oper} {Q : Exit → Act → World → Prop} {oi : Oper} {N : Option Tmp} {a : Act} {w : World} {K : Act → World → Prop} {f : FuncId} {fn : Func} {ao : Array Operand} {ts : Array TypeId} (hf : P.funcs[f]? = some fn) (hname : (fn.name == "runtime.NumGoroutine") = false) (hb : fn.body.isSome = true) (args : Array Value) (t : Tmp)
  (hw:Region.wanted oi (yielded ops a.tmps)=true) (hN:oi.dst=N) (hop:oi.op = .call { callee:=.value (.tmp t),args:=ao,argTypes:=ts }) (hev:a.eval (.tmp t) = .func (.func f) #[] #[]) (hargs:ao.map a.eval=args)
  (h:Calls P f args w fun e w' => ∃ v,e = .returned v∧K (a.put N v) w'):if Region.wanted oi (yielded ops a.tmps)=true then Oper.wp P oi a w K Q else K (a.put N undef) w:=by
 refine qkc f args hw hN ?_ h
 have he:=XJ hf hname hb args w
 unfold execOp
 simp [hop,resolve,Deferred.ofValue,invoke,hev,hargs,he]
theorem XK {P : Program} {ops : Array Oper} {Q : Exit → Act → World → Prop} {rest : List Oper} {oi : Oper} {a : Act} {w : World} (N : Option Tmp) (hd : oi.dst = N) (hg : oi.guard = none) {f : FuncId} {fn : Func} {ao : Array Operand} {ts : Array TypeId} (hf : P.funcs[f]? = some fn) (hname : (fn.name == "runtime.NumGoroutine") = false) (hb : fn.body.isSome = true) (args : Array Value) (t : Tmp) (bound caps : Array Value)
  (hop:oi.op = .call { callee:=.value (.tmp t),args:=ao,argTypes:=ts }) (hev:a.eval (.tmp t) = .func (.func f) bound caps) (hargs:bound++ao.map a.eval++caps=args)
  (h:Calls P f args w fun e w' => ∃ v,e = .returned v∧wpList P ops Q rest (a.put N v) w'):wpList P ops Q (oi::rest) a w:=by
 refine wpList_plain hg fun K hK => ?_
 have he:=XJ hf hname hb args w
 have hrun:(execOp a.eval oi).run P w = .ok (.enter f args) w:=by
  unfold execOp
  simp [hop,resolve,Deferred.ofValue,invoke,hev,hargs,he]
 unfold Oper.wp
 rw [hrun,Oper.upon_enter]
 refine h.mono fun e w'' hh => ?_
 obtain ⟨v,rfl,hk⟩:=hh
 subst hd
 exact hK _ _ hk
theorem qpt (d:Nat) (w:World) (x0 x1 x2 x3 x4 x5 y0 y1 y2 y3 y4 y5:Int) :
  (Op.equalIn (d+2) 115 (.agg #[.int .i64 x0,.int .i64 x1,.int .i64 x2,.int .i64 x3,.int .i64 x4,.int .i64 x5]) (.agg #[.int .i64 y0,.int .i64 y1,.int .i64 y2,.int .i64 y3,.int .i64 y4,.int .i64 y5])).run Try.prog w = .ok (x0==y0&&(x1==y1&&(x2==y2&&(x3==y3&&(x4==y4&&(x5==y5)))))) w:=by
 obtain ⟨i0,hi,hz0,hz1,hz2⟩:=info_parts Xc
 have hu:=Try.underlying3
 rw [Op.equalIn]
 simp only [Sem.run_bind,run_underlying Try.underlying115,Result.andThen_ok,sizeOf,typeInfo]
 simp only [Std.Legacy.Range.forIn_eq_forIn_range',Std.Legacy.Range.size,List.range'_succ]
 have he:∀ (a b:Int) (w:World),(Op.equalIn (d+1) 3 (.int .i64 a) (.int .i64 b)).run Try.prog w = .ok (a==b) w:=fun a b w=>run_equalIn_int w d 3 .i64 .i64 a b hu
 simp [forIn,part,hi,hz1,he,-beq_eq_false_iff_ne,-beq_iff_eq,-bne_iff_ne]
 repeat (split<;>simp_all [-beq_eq_false_iff_ne,-beq_iff_eq])
end
section
attribute [local go_sem] Yn Yp YA YC Yb Yc Yo Yq
def YX.f (a0:Int) (a1:Int) (a2:Int):Option (Bool):=if a1≤a0 then (some (decide (a0≤a2))) else (some false)
set_option maxHeartbeats 8000000 in
set_option maxRecDepth 100000 in
theorem YX.calls (a0:Int) (a1:Int) (a2:Int) (r:Bool) (w:World) (h:YX.f a0 a1 a2=some r) :
  Calls Try.prog 34 #[.int .i64 a0,.int .i64 a1,.int .i64 a2] w fun e w'=>e = .returned (.bool r)∧Yg w w':=by
 have H:(if a1≤a0 then (some (decide (a0≤a2))) else (some false))=some r:=h
 clear h
 by_cases c4:a1≤a0
 ·
  rw [if_pos c4] at H
  have c4b0:decide (a1≤a0)=true:=decide_eq_true c4
  clear c4
  obtain rfl:=Option.some.inj H
  go_enter Try.func34,Try.ntmps34
  go_wp2
  go_ret
  exact ⟨by first|rfl|(simp;done)|(simp [*];done),by repeat (first|exact Yg.refl _|apply Yg.step)⟩
 rw [if_neg c4] at H
 have c4b0:decide (a1≤a0)=false:=decide_eq_false c4
 clear c4
 obtain rfl:=Option.some.inj H
 go_enter Try.func34,Try.ntmps34
 go_wp2
 go_ret
 exact ⟨by first|rfl|(simp;done)|(simp [*];done),by repeat (first|exact Yg.refl _|apply Yg.step)⟩
end
section
attribute [local go_sem] Yn Yp YA YC Yb Yc Yo Yq
def Qt.l0:Nat→List Int→Int→Int→Option (Bool)
 | 0,_,_,_=>none
 | k+1,x0,x1,x5=>if x5<(x0.length:Int) then (if 0≤x5 then ((YX.f (rd x0 x5) 0 (wrap64 (x1-1))).bind fun qnJ=>(if qnJ=true then (if x5>0 then (if 0≤(wrap64 (x5-1)) then (if (wrap64 (x5-1))<(x0.length:Int) then (if (rd x0 x5)≤(rd x0 (wrap64 (x5-1))) then (some false) else (Qt.l0 k x0 x1 (wrap64 (x5+1)))) else (none)) else (none)) else (Qt.l0 k x0 x1 (wrap64 (x5+1)))) else (some false))) else (none)) else (some true)
def Qt.f (k:Nat) (l0:List Int) (a1:Int):Option (Bool):=Qt.l0 k l0 a1 0
set_option maxHeartbeats 8000000 in
set_option maxRecDepth 100000 in
theorem Qt.calls (k:Nat) (A0:Option Addr) (c0:Nat) (l0:List Int) (a1:Int) (r:Bool) (w:World) (hr0:Kd.C (Kd.int .i64) w A0 l0.length l0) (hc0:l0.length≤c0) (h:Qt.f k l0 a1=some r) :
  Calls Try.prog 53 #[.slice A0 l0.length c0,.int .i64 a1] w fun e w'=>e = .returned (.bool r)∧Yg w w':=by
 have HR0:=Q0.mk hr0
 have HC0:=Q0.mk hc0
 clear hr0 hc0
 have H:(Qt.l0 k l0 a1 0)=some r:=h
 clear h
 have H':=Q0.mk H
 clear H
 go_enter Try.func53,Try.ntmps53
 go_wp2
 repeat (go_quiet (fail);try go_wp2)
 go_loopg [5] k (fun kq v5 w' => ∃ (Y8:Int),v5 = .int .i64 Y8∧Q0 (Qt.l0 kq l0 a1 Y8=some r)∧Q0 (kq≤k)∧Yg w w')
 case atStart=>exact ⟨(0),(by first|rfl|(simp;done)|(simp [*];done)),H',⟨Nat.le_refl _⟩,by repeat (first|exact Yg.refl _|apply Yg.step)⟩
 case round =>
  clear H'
  try clear p2
  obtain ⟨Y8,rfl,HA,HK1,⟨m1,rfl⟩⟩:=hrel
  cases gk with
  | zero=>exact absurd HA.out (by simp [Qt.l0])
  | succ k1 =>
   have H:=HA.out
   clear HA
   simp only [Qt.l0] at H
   by_cases c3:Y8<(l0.length:Int)
   ·
    rw [if_pos c3] at H;have c3b0:decide (Y8<(l0.length:Int))=true:=decide_eq_true c3;clear c3
    by_cases c4:0≤Y8
    ·
     rw [if_pos c4] at H;have c4b0:decide (0≤Y8)=true:=decide_eq_true c4;clear c4;replace H:=Option.bind_eq_some_iff.mp H;obtain ⟨qnJ,A50,H⟩:=H;replace H:(if qnJ=true then (if Y8>0 then (if 0≤(wrap64 (Y8-1)) then (if (wrap64 (Y8-1))<(l0.length:Int) then (if (rd l0 Y8)≤(rd l0 (wrap64 (Y8-1))) then (some false) else (Qt.l0 k1 l0 a1 (wrap64 (Y8+1)))) else (none)) else (none)) else (Qt.l0 k1 l0 a1 (wrap64 (Y8+1)))) else (some false))=some r:=H;have A5:=Q0.mk A50;clear A50
     by_cases c6:qnJ=true
     ·
      subst c6
      have H1:(if Y8>0 then (if 0≤(wrap64 (Y8-1)) then (if (wrap64 (Y8-1))<(l0.length:Int) then (if (rd l0 Y8)≤(rd l0 (wrap64 (Y8-1))) then (some false) else (Qt.l0 k1 l0 a1 (wrap64 (Y8+1)))) else (none)) else (none)) else (Qt.l0 k1 l0 a1 (wrap64 (Y8+1))))=some r:=by rw [if_pos rfl] at H;exact H
      clear H;have H:=H1;clear H1
      by_cases c7:Y8>0
      ·
       rw [if_pos c7] at H;have c7b0:decide (0<Y8)=true:=decide_eq_true c7;clear c7;obtain ⟨ji8,qkJ⟩:∃ j_:Int,(wrap64 (Y8-1))=j_:=⟨_,rfl⟩
       replace H:(if 0≤(ji8) then (if (ji8)<(l0.length:Int) then (if (rd l0 Y8)≤(rd l0 (ji8)) then (some false) else (Qt.l0 k1 l0 a1 (wrap64 (Y8+1)))) else (none)) else (none))=some r:=by first|(rw [qkJ] at H;exact H)|(simp only [qkJ] at H ⊢;exact H)
       (try rw [qkJ] at A5)
       have hji8w:(IntKind.i64.wrap (Y8-1))=ji8:=(Yj _).trans qkJ
       by_cases c9:0≤(ji8)
       ·
        rw [if_pos c9] at H;have c9b0:decide (0≤(ji8))=true:=decide_eq_true c9;clear c9
        by_cases c10:(ji8)<(l0.length:Int)
        ·
         rw [if_pos c10] at H;have c10b0:decide ((ji8)<(l0.length:Int))=true:=decide_eq_true c10;clear c10;obtain ⟨adJ,eJ,hxJ_0⟩:=Kd.at_int HR0.out (ji8) (of_decide_eq_true c9b0) (of_decide_eq_true c10b0);cases eJ;have pJ:=eq_true (of_decide_eq_true c9b0);have qJ:=eq_true (of_decide_eq_true c10b0);have hwaJ:IntKind.i64.wrap (a1-1)=wrap64 (a1-1):=Yj _
         by_cases c11:(rd l0 Y8)≤(rd l0 (ji8))
         ·
          rw [if_pos c11] at H;have c11b0:decide ((rd l0 Y8)≤(rd l0 (ji8)))=true:=decide_eq_true c11;clear c11;obtain rfl:=Option.some.inj H;have Xr:0≤(Y8:Int):=of_decide_eq_true (by first|(with_reducible assumption)|assumption);have Xu:Y8<(l0.length:Int):=of_decide_eq_true (by first|(with_reducible assumption)|assumption);obtain ⟨qj7,qgR,qem⟩:=Kd.at_int HR0.out Y8 Xr Xu;cases qgR;replace Xr:=eq_true Xr;replace Xu:=eq_true Xu
          go_wp2_with (first|(go_at_call 34;(with_reducible refine (YX.calls (rd l0 Y8) 0 (wrap64 (a1-1)) true _ A5.out).mono ?_);rintro e w' ⟨rfl,⟨nd,rfl⟩⟩;(try first|exact ⟨rfl,_,World.drewN_drewN _ _ _⟩|exact ⟨rfl,_,Eq.trans (World.drewN_drewN _ _ _) (congrArg (World.drewN _) (Nat.add_assoc _ _ _))⟩)))
          repeat (go_quiet (first|(go_at_call 34;(with_reducible refine (YX.calls (rd l0 Y8) 0 (wrap64 (a1-1)) true _ A5.out).mono ?_);rintro e w' ⟨rfl,⟨nd,rfl⟩⟩;(try first|exact ⟨rfl,_,World.drewN_drewN _ _ _⟩|exact ⟨rfl,_,Eq.trans (World.drewN_drewN _ _ _) (congrArg (World.drewN _) (Nat.add_assoc _ _ _))⟩)));try go_wp2_with (first|(go_at_call 34;(with_reducible refine (YX.calls (rd l0 Y8) 0 (wrap64 (a1-1)) true _ A5.out).mono ?_);rintro e w' ⟨rfl,⟨nd,rfl⟩⟩;(try first|exact ⟨rfl,_,World.drewN_drewN _ _ _⟩|exact ⟨rfl,_,Eq.trans (World.drewN_drewN _ _ _) (congrArg (World.drewN _) (Nat.add_assoc _ _ _))⟩))))
          go_ret
          exact ⟨by first|rfl|(simp;done)|(simp only [← qkJ]<;>(first|rfl|simp))|(simp [*];done),by repeat (first|exact Yg.refl _|apply Yg.step)⟩
         rw [if_neg c11] at H;have c11b0:decide ((rd l0 Y8)≤(rd l0 (ji8)))=false:=decide_eq_false c11;clear c11;have H':=Q0.mk H;clear H;have Xr:0≤(Y8:Int):=of_decide_eq_true (by first|(with_reducible assumption)|assumption);have Xu:Y8<(l0.length:Int):=of_decide_eq_true (by first|(with_reducible assumption)|assumption);obtain ⟨qj7,qgR,qem⟩:=Kd.at_int HR0.out Y8 Xr Xu;cases qgR;replace Xr:=eq_true Xr;replace Xu:=eq_true Xu
         go_wp2_with (first|(go_at_call 34;(with_reducible refine (YX.calls (rd l0 Y8) 0 (wrap64 (a1-1)) true _ A5.out).mono ?_);rintro e w' ⟨rfl,⟨nd,rfl⟩⟩;(try first|exact ⟨rfl,_,World.drewN_drewN _ _ _⟩|exact ⟨rfl,_,Eq.trans (World.drewN_drewN _ _ _) (congrArg (World.drewN _) (Nat.add_assoc _ _ _))⟩)))
         repeat (go_quiet (first|(go_at_call 34;(with_reducible refine (YX.calls (rd l0 Y8) 0 (wrap64 (a1-1)) true _ A5.out).mono ?_);rintro e w' ⟨rfl,⟨nd,rfl⟩⟩;(try first|exact ⟨rfl,_,World.drewN_drewN _ _ _⟩|exact ⟨rfl,_,Eq.trans (World.drewN_drewN _ _ _) (congrArg (World.drewN _) (Nat.add_assoc _ _ _))⟩)));try go_wp2_with (first|(go_at_call 34;(with_reducible refine (YX.calls (rd l0 Y8) 0 (wrap64 (a1-1)) true _ A5.out).mono ?_);rintro e w' ⟨rfl,⟨nd,rfl⟩⟩;(try first|exact ⟨rfl,_,World.drewN_drewN _ _ _⟩|exact ⟨rfl,_,Eq.trans (World.drewN_drewN _ _ _) (congrArg (World.drewN _) (Nat.add_assoc _ _ _))⟩))))
         go_roundg k1
         case measure=>have:=HK1.out;omega
         case rel=>exact ⟨(wrap64 (Y8+1)),(by first|rfl|(simp;done)|(simp [*];done)),H',⟨by have:=HK1.out;omega⟩,by repeat (first|exact Yg.refl _|apply Yg.step)⟩
        rw [if_neg c10] at H
        exact absurd H (by simp)
       rw [if_neg c9] at H
       exact absurd H (by simp)
      rw [if_neg c7] at H;have c7b0:decide (0<Y8)=false:=decide_eq_false c7;clear c7;have H':=Q0.mk H;clear H;have Xr:0≤(Y8:Int):=of_decide_eq_true (by first|(with_reducible assumption)|assumption);have Xu:Y8<(l0.length:Int):=of_decide_eq_true (by first|(with_reducible assumption)|assumption);obtain ⟨qj7,qgR,qem⟩:=Kd.at_int HR0.out Y8 Xr Xu;cases qgR;replace Xr:=eq_true Xr;replace Xu:=eq_true Xu
      go_wp2_with (first|(go_at_call 34;(with_reducible refine (YX.calls (rd l0 Y8) 0 (wrap64 (a1-1)) true _ A5.out).mono ?_);rintro e w' ⟨rfl,⟨nd,rfl⟩⟩;(try first|exact ⟨rfl,_,World.drewN_drewN _ _ _⟩|exact ⟨rfl,_,Eq.trans (World.drewN_drewN _ _ _) (congrArg (World.drewN _) (Nat.add_assoc _ _ _))⟩)))
      repeat (go_quiet (first|(go_at_call 34;(with_reducible refine (YX.calls (rd l0 Y8) 0 (wrap64 (a1-1)) true _ A5.out).mono ?_);rintro e w' ⟨rfl,⟨nd,rfl⟩⟩;(try first|exact ⟨rfl,_,World.drewN_drewN _ _ _⟩|exact ⟨rfl,_,Eq.trans (World.drewN_drewN _ _ _) (congrArg (World.drewN _) (Nat.add_assoc _ _ _))⟩)));try go_wp2_with (first|(go_at_call 34;(with_reducible refine (YX.calls (rd l0 Y8) 0 (wrap64 (a1-1)) true _ A5.out).mono ?_);rintro e w' ⟨rfl,⟨nd,rfl⟩⟩;(try first|exact ⟨rfl,_,World.drewN_drewN _ _ _⟩|exact ⟨rfl,_,Eq.trans (World.drewN_drewN _ _ _) (congrArg (World.drewN _) (Nat.add_assoc _ _ _))⟩))))
      go_roundg k1
      case measure=>have:=HK1.out;omega
      case rel=>exact ⟨(wrap64 (Y8+1)),(by first|rfl|(simp;done)|(simp [*];done)),H',⟨by have:=HK1.out;omega⟩,by repeat (first|exact Yg.refl _|apply Yg.step)⟩
     replace c6:=Bool.eq_false_iff.mpr c6;subst c6
     have H1:(some false)=some r:=by rw [if_neg (show ¬ (false=true) by decide)] at H;exact H
     clear H;have H:=H1;clear H1;obtain rfl:=Option.some.inj H;have Xr:0≤(Y8:Int):=of_decide_eq_true (by first|(with_reducible assumption)|assumption);have Xu:Y8<(l0.length:Int):=of_decide_eq_true (by first|(with_reducible assumption)|assumption);obtain ⟨qj7,qgR,qem⟩:=Kd.at_int HR0.out Y8 Xr Xu;cases qgR;replace Xr:=eq_true Xr;replace Xu:=eq_true Xu
     go_wp2_with (first|(go_at_call 34;(with_reducible refine (YX.calls (rd l0 Y8) 0 (wrap64 (a1-1)) false _ A5.out).mono ?_);rintro e w' ⟨rfl,⟨nd,rfl⟩⟩;(try first|exact ⟨rfl,_,World.drewN_drewN _ _ _⟩|exact ⟨rfl,_,Eq.trans (World.drewN_drewN _ _ _) (congrArg (World.drewN _) (Nat.add_assoc _ _ _))⟩)))
     repeat (go_quiet (first|(go_at_call 34;(with_reducible refine (YX.calls (rd l0 Y8) 0 (wrap64 (a1-1)) false _ A5.out).mono ?_);rintro e w' ⟨rfl,⟨nd,rfl⟩⟩;(try first|exact ⟨rfl,_,World.drewN_drewN _ _ _⟩|exact ⟨rfl,_,Eq.trans (World.drewN_drewN _ _ _) (congrArg (World.drewN _) (Nat.add_assoc _ _ _))⟩)));try go_wp2_with (first|(go_at_call 34;(with_reducible refine (YX.calls (rd l0 Y8) 0 (wrap64 (a1-1)) false _ A5.out).mono ?_);rintro e w' ⟨rfl,⟨nd,rfl⟩⟩;(try first|exact ⟨rfl,_,World.drewN_drewN _ _ _⟩|exact ⟨rfl,_,Eq.trans (World.drewN_drewN _ _ _) (congrArg (World.drewN _) (Nat.add_assoc _ _ _))⟩))))
     go_ret
     exact ⟨by first|rfl|(simp;done)|(simp [*];done),by repeat (first|exact Yg.refl _|apply Yg.step)⟩
    rw [if_neg c4] at H
    exact absurd H (by simp)
   rw [if_neg c3] at H
   have c3b0:decide (Y8<(l0.length:Int))=false:=decide_eq_false c3
   clear c3
   obtain rfl:=Option.some.inj H
   go_wp2
   repeat (go_quiet (fail);try go_wp2)
   go_ret
   exact ⟨by first|rfl|(simp;done)|(simp [*];done),by repeat (first|exact Yg.refl _|apply Yg.step)⟩
end
section
attribute [local go_sem] Yn Yp YA YC Yb Yc Yo Yq
def Ji.f (a0:Int) (a1:Int):Option (Bool):=if 0≤a1 then (some ((Go.bits .and .i64 (shr .i64 a0 a1) 1)==1)) else (none)
set_option maxHeartbeats 8000000 in
set_option maxRecDepth 100000 in
theorem Ji.calls (a0:Int) (a1:Int) (r:Bool) (w:World) (h:Ji.f a0 a1=some r) :
  Calls Try.prog 93 #[.int .i64 a0,.int .i64 a1] w fun e w'=>e = .returned (.bool r)∧Yg w w':=by
 have H:(if 0≤a1 then (some ((Go.bits .and .i64 (shr .i64 a0 a1) 1)==1)) else (none))=some r:=h
 clear h
 by_cases c3:0≤a1
 ·
  rw [if_pos c3] at H
  have c3b0:=eq_true c3
  have c3b1:decide (0≤a1)=true:=decide_eq_true c3
  clear c3
  obtain ⟨ji4,qcW⟩:∃ j_:Int,(shr .i64 a0 a1)=j_:=⟨_,rfl⟩
  replace H:(some ((Go.bits .and .i64 (ji4) 1)==1))=some r:=by first|(rw [qcW] at H;exact H)|(simp only [qcW] at H ⊢;exact H)
  have hji4_:(a0 / 2 ^ min a1.toNat 64)=ji4:=qcW
  have hji4z:a1≤64→(a0 / 2 ^ a1.toNat)=ji4:=qds qcW
  obtain rfl:=Option.some.inj H
  go_enter Try.func93,Try.ntmps93
  go_wp2
  go_ret
  exact ⟨by first|rfl|(simp;done)|(simp only [← qcW]<;>(first|rfl|simp))|(simp [*];done),by repeat (first|exact Yg.refl _|apply Yg.step)⟩
 rw [if_neg c3] at H
 exact absurd H (by simp)
end
section
attribute [local go_sem] Yn Yp YA YC Yb Yc Yo Yq
def QN.l0:Nat→Int→Int→List Int→Int→Option (List Int)
 | 0,_,_,_,_=>none
 | k+1,x0,x1,x5,x6=>if x6<x1 then ((Ji.f x0 x6).bind fun qnK=>(if qnK=true then (if x5.length<17592186044416 then (QN.l0 k x0 x1 (x5++[x6]) (wrap64 (x6+1))) else (none)) else (QN.l0 k x0 x1 x5 (wrap64 (x6+1))))) else (some x5)
def QN.f (k:Nat) (a0:Int) (a1:Int):Option (List Int):=QN.l0 k a0 a1 ([]:List Int) 0
set_option maxHeartbeats 8000000 in
set_option maxRecDepth 100000 in
theorem QN.calls (k:Nat) (a0:Int) (a1:Int) (r:List Int) (w:World) (h:QN.f k a0 a1=some r) :
  Calls Try.prog 55 #[.int .i64 a0,.int .i64 a1] w fun e w' => ∃ v0_:Value,e = .returned (v0_)∧Kd.R (Kd.int .i64) 3 w' w.heap.size (fun _=>True) v0_ r∧Below w.heap.size w w':=by
 have HB:=Q0.mk (Below.refl w.heap.size w)
 have H:(QN.l0 k a0 a1 ([]:List Int) 0)=some r:=h
 clear h
 have H':=Q0.mk H
 clear H
 go_enter Try.func55,Try.ntmps55
 go_wp2
 go_loopg [5,6] k (fun kq v5 v6 w' => ∃ (Y8:List Int) (JA:Int),v6 = .int .i64 JA∧Q0 (QN.l0 kq a0 a1 Y8 JA=some r)∧Q0 (kq≤k)∧Q0 (Kd.R (Kd.int .i64) 3 w' w.heap.size (fun _=>True) v5 Y8)∧Q0 (Below w.heap.size w w'))
 case atStart=>exact ⟨(([]:List Int)),(0),(by first|rfl|(simp;done)|(simp [*];done)),H',⟨Nat.le_refl _⟩,⟨by first|exact Kd.R_nil _ _ _ _ _|exact Kd.N_nil _ _ _ _ _|exact Kd.V_nil _ _ _ _ _|exact Kd.Q_nil _ _ _ _ _|exact Kd.S_nil _ _ _ _ _⟩,⟨by repeat (first|(with_reducible first|exact HB.out|apply Q3|apply Q1|apply Q6)|exact HB.out)⟩⟩
 case round =>
  clear H'
  try clear p2
  obtain ⟨Y8,JA,rfl,HA,HK1,HO_5,HB⟩:=hrel
  cases gk with
  | zero=>exact absurd HA.out (by simp [QN.l0])
  | succ k1 =>
   have H:=HA.out
   clear HA
   simp only [QN.l0] at H
   by_cases c3:JA<a1
   ·
    rw [if_pos c3] at H;have c3b0:decide (JA<a1)=true:=decide_eq_true c3;clear c3;replace H:=Option.bind_eq_some_iff.mp H;obtain ⟨qnK,A40,H⟩:=H;replace H:(if qnK=true then (if Y8.length<17592186044416 then (QN.l0 k1 a0 a1 (Y8++[JA]) (wrap64 (JA+1))) else (none)) else (QN.l0 k1 a0 a1 Y8 (wrap64 (JA+1))))=some r:=H;have A4:=Q0.mk A40;clear A40
    by_cases c5:qnK=true
    ·
     subst c5
     have H1:(if Y8.length<17592186044416 then (QN.l0 k1 a0 a1 (Y8++[JA]) (wrap64 (JA+1))) else (none))=some r:=by rw [if_pos rfl] at H;exact H
     clear H;have H:=H1;clear H1
     by_cases c6:Y8.length<17592186044416
     ·
      rw [if_pos c6] at H;have qzi:=Q0.mk c6;clear c6;obtain ⟨qtg,qfT⟩:∃ y_:List Int,y_=(Y8++[JA]):=⟨_,rfl⟩
      replace H:(QN.l0 k1 a0 a1 qtg (wrap64 (JA+1)))=some r:=by first|(rw [qfT];with_reducible exact H)|(have H2_:=(Option.bind_some _ _).symm.trans H;rw [qfT];with_reducible exact H2_)|(have H2_:=(Option.bind_some _ _).symm.trans H;with_reducible exact H2_)|with_reducible exact H|(rw [qfT];exact H)|exact H
      have qqO:=Q0.mk qfT;clear qfT;have H':=Q0.mk H;clear H
      go_wp2_with (first|((with_reducible refine Qx (f:=93) rfl ?_);refine YL (some 14) rfl rfl Try.func93 (by kernel_rfl) rfl #[.int .i64 a0,.int .i64 JA] rfl (by (try simp only [List.map_toArray,List.map_cons,List.map_nil]);first|done|rfl|(simp only [List.length_drop,List.length_take];rfl)) ?_;(with_reducible refine (Ji.calls a0 JA true _ A4.out).mono ?_);rintro e w' ⟨rfl,⟨nd,rfl⟩⟩;refine ⟨_,rfl,?_⟩)|((with_reducible refine qdU (b:=.append) (xs:=#[.tmp 15,.tmp 17]) rfl ?_);at_builtin;refine Kd.R_append (Kd.int .i64) (w0:=w) w.heap.size rfl (.tmp 15) (.tmp 17) 37 3 (.int .i64 0) 8 rfl Try.underlying37 Xc rfl (by decide) (by omega) u5 Y8 JA [.int .i64 JA] (fun _=>True) (fun _=>False) rfl rfl ?aP (fun _ hk=>hk.elim) ?aF ?aO ?aB ?aS ?aL ?_;(case aP=>exact rfl);(case aB=>exact (by repeat (first|(with_reducible first|exact HB.out|apply Q3|apply Q1|apply Q6)|exact HB.out)));(case aF=>exact (fun _ _=>trivial));(case aO=>exact (by (with_reducible repeat (first|apply Kd.R_alloc|apply Kd.R_drewN|apply Kd.R_drew));exact HO_5.out));(case aS=>exact (Qf (by repeat (first|(with_reducible first|exact HB.out|apply Q3|apply Q1|apply Q6)|exact HB.out))));(case aL=>have:=qzi.out;omega);intro qD9 w7 ho hb hg hat;rw [← qqO.out] at ho;have n0_:=Q0.mk (hb);have n1_:=Q0.mk (ho);clear HB HO_5;have HB:=n0_;have qqK:=n1_;clear n0_ n1_ ho hb hg hat))
      go_roundg k1
      case measure=>have:=HK1.out;omega
      case rel=>exact ⟨(qtg),(wrap64 (JA+1)),(by first|rfl|(simp;done)|(simp [*];done)),H',⟨by have:=HK1.out;omega⟩,⟨by (with_reducible repeat (first|apply Kd.R_alloc|apply Kd.R_drewN|apply Kd.R_drew));exact qqK.out⟩,⟨by repeat (first|(with_reducible first|exact HB.out|apply Q3|apply Q1|apply Q6)|exact HB.out)⟩⟩
     rw [if_neg c6] at H
     exact absurd H (by simp)
    replace c5:=Bool.eq_false_iff.mpr c5;subst c5
    have H1:(QN.l0 k1 a0 a1 Y8 (wrap64 (JA+1)))=some r:=by rw [if_neg (show ¬ (false=true) by decide)] at H;exact H
    clear H;have H:=H1;clear H1;have H':=Q0.mk H;clear H
    go_wp2_with (first|((with_reducible refine Qx (f:=93) rfl ?_);refine YL (some 14) rfl rfl Try.func93 (by kernel_rfl) rfl #[.int .i64 a0,.int .i64 JA] rfl (by (try simp only [List.map_toArray,List.map_cons,List.map_nil]);first|done|rfl|(simp only [List.length_drop,List.length_take];rfl)) ?_;(with_reducible refine (Ji.calls a0 JA false _ A4.out).mono ?_);rintro e w' ⟨rfl,⟨nd,rfl⟩⟩;refine ⟨_,rfl,?_⟩))
    go_roundg k1
    case measure=>have:=HK1.out;omega
    case rel=>exact ⟨(Y8),(wrap64 (JA+1)),(by first|rfl|(simp;done)|(simp [*];done)),H',⟨by have:=HK1.out;omega⟩,⟨by (with_reducible repeat (first|apply Kd.R_alloc|apply Kd.R_drewN|apply Kd.R_drew));exact HO_5.out⟩,⟨by repeat (first|(with_reducible first|exact HB.out|apply Q3|apply Q1|apply Q6)|exact HB.out)⟩⟩
   rw [if_neg c3] at H
   have c3b0:decide (JA<a1)=false:=decide_eq_false c3
   clear c3
   obtain rfl:=Option.some.inj H
   go_wp2
   go_ret
   exact ⟨_,by first|rfl|(simp [Qq,Qr]<;>rfl)|(simp [*,Qq,Qr]<;>rfl),by (with_reducible repeat (first|apply Kd.R_alloc|apply Kd.R_drewN|apply Kd.R_drew));exact HO_5.out,by repeat (first|(with_reducible first|exact HB.out|apply Q3|apply Q1|apply Q6)|exact HB.out)⟩
end
section
attribute [local go_sem] Yn Yp YA YC Yb Yc Yo Yq
mutual
def Qy.l0:Nat→List Int→List Int→Int→Option (Bool)
 | 0,_,_,_=>none
 | k+1,x0,x1,x5=>if x5<(x0.length:Int) then (Qy.j1 k x0 x1 x5 (decide (x5<(x1.length:Int)))) else (Qy.j1 k x0 x1 x5 false)
def Qy.j1:Nat→List Int→List Int→Int→Bool→Option (Bool)
 | 0,_,_,_,_=>none
 | k+1,x0,x1,x5,x15=>if x15=true then (if 0≤x5 then (if x5<(x0.length:Int) then (if x5<(x1.length:Int) then (if (rd x0 x5)=(rd x1 x5) then (Qy.l0 k x0 x1 (wrap64 (x5+1))) else (some (decide ((rd x0 x5)<(rd x1 x5))))) else (none)) else (none)) else (none)) else (some (decide ((x0.length:Int)<(x1.length:Int))))
end
def Qy.f (k:Nat) (l0:List Int) (l1:List Int):Option (Bool):=Qy.l0 k l0 l1 0
set_option maxHeartbeats 8000000 in
set_option maxRecDepth 100000 in
theorem Qy.calls (k:Nat) (A0:Option Addr) (c0:Nat) (l0:List Int) (A1:Option Addr) (c1:Nat) (l1:List Int) (r:Bool) (w:World) (hr0:Kd.C (Kd.int .i64) w A0 l0.length l0) (hc0:l0.length≤c0) (hr1:Kd.C (Kd.int .i64) w A1 l1.length l1) (hc1:l1.length≤c1) (h:Qy.f k l0 l1=some r) :
  Calls Try.prog 56 #[.slice A0 l0.length c0,.slice A1 l1.length c1] w fun e w'=>e = .returned (.bool r)∧Yg w w':=by
 have HR0:=Q0.mk hr0
 have HC0:=Q0.mk hc0
 clear hr0 hc0
 have HR1:=Q0.mk hr1
 have HC1:=Q0.mk hc1
 clear hr1 hc1
 have H:(Qy.l0 k l0 l1 0)=some r:=h
 clear h
 have H':=Q0.mk H
 clear H
 go_enter Try.func56,Try.ntmps56
 go_wp2
 repeat (go_quiet (fail);try go_wp2)
 go_loopg [5] k (fun kq v5 w' => ∃ (Y8:Int),v5 = .int .i64 Y8∧Q0 (Qy.l0 kq l0 l1 Y8=some r)∧Q0 (kq≤k)∧Yg w w')
 case atStart=>exact ⟨(0),(by first|rfl|(simp;done)|(simp [*];done)),H',⟨Nat.le_refl _⟩,by repeat (first|exact Yg.refl _|apply Yg.step)⟩
 case round =>
  clear H'
  try clear c1
  try clear p2
  obtain ⟨Y8,rfl,HA,HK1,⟨m1,rfl⟩⟩:=hrel
  cases gk with
  | zero=>exact absurd HA.out (by simp [Qy.l0])
  | succ k1 =>
   have H:=HA.out
   clear HA
   simp only [Qy.l0] at H
   have HC3:=Q0.mk H
   clear H
   go_upto_region 2 with (fail)
   repeat (go_quiet (fail);go_upto_region 2 with (fail))
   go_cut [15] (fun v15 wc => ∃ (kq:Nat) (qiM:Bool),v15 = .bool qiM∧Q0 (Qy.j1 kq l0 l1 Y8 qiM=some r)∧Q0 (kq≤k1)∧Yg w wc)
   case first =>
    have H:=HC3.out;clear HC3
    by_cases c4:Y8<(l0.length:Int)
    ·
     rw [if_pos c4] at H;have c4b0:decide (Y8<(l0.length:Int))=true:=decide_eq_true c4;clear c4
     (first|rw [c4b0]|(simp only [Yj,Yu];rw [c4b0])|skip)
     have H':=Q0.mk H;clear H
     go_wp2
     repeat (go_quiet (fail);try go_wp2)
     go_meet
     case rel=>exact ⟨_,(decide (Y8<(l1.length:Int))),(by first|rfl|(simp;done)|(simp [*];done)),H',⟨by have:=HK1.out;first|omega|exact Nat.le_refl _⟩,by repeat (first|exact Yg.refl _|apply Yg.step)⟩
    rw [if_neg c4] at H;have c4b0:decide (Y8<(l0.length:Int))=false:=decide_eq_false c4;clear c4
    (first|rw [c4b0]|(simp only [Yj,Yu];rw [c4b0])|skip)
    have H':=Q0.mk H;clear H
    go_wp2
    repeat (go_quiet (fail);try go_wp2)
    go_meet
    case rel=>exact ⟨_,(false),(by first|rfl|(simp;done)|(simp [*];done)),H',⟨by have:=HK1.out;first|omega|exact Nat.le_refl _⟩,by repeat (first|exact Yg.refl _|apply Yg.step)⟩
   case rest =>
    clear HC3;(try clear c1);(try clear p2);(try clear c4);(try clear c4b0);(try clear p2);obtain ⟨kq,qiM,rfl,HA,HJ2,⟨mc2,rfl⟩⟩:=hcut
    cases kq with
    | zero=>exact absurd HA.out (by simp [Qy.j1])
    | succ kj2 =>
     have H:=HA.out;clear HA;simp only [Qy.j1] at H
     by_cases c5:qiM=true
     ·
      subst c5
      have H1:(if 0≤Y8 then (if Y8<(l0.length:Int) then (if Y8<(l1.length:Int) then (if (rd l0 Y8)=(rd l1 Y8) then (Qy.l0 kj2 l0 l1 (wrap64 (Y8+1))) else (some (decide ((rd l0 Y8)<(rd l1 Y8))))) else (none)) else (none)) else (none))=some r:=by rw [if_pos rfl] at H;exact H
      clear H;have H:=H1;clear H1
      by_cases c6:0≤Y8
      ·
       rw [if_pos c6] at H;have c6b0:decide (0≤Y8)=true:=decide_eq_true c6;clear c6
       by_cases c7:Y8<(l0.length:Int)
       ·
        rw [if_pos c7] at H;have c7b0:decide (Y8<(l0.length:Int))=true:=decide_eq_true c7;clear c7
        by_cases c8:Y8<(l1.length:Int)
        ·
         rw [if_pos c8] at H;have c8b0:decide (Y8<(l1.length:Int))=true:=decide_eq_true c8;clear c8
         by_cases c9:(rd l0 Y8)=(rd l1 Y8)
         ·
          rw [if_pos c9] at H;have c9b0:((rd l0 Y8)==(rd l1 Y8))=true:=beq_iff_eq.mpr c9;have c9b1:((rd l0 Y8) != (rd l1 Y8))=false:=bne_eq_false_iff_eq.mpr c9;clear c9;have H':=Q0.mk H;clear H;have qhl:0≤(Y8:Int):=of_decide_eq_true (by first|(with_reducible assumption)|assumption);have qhy:Y8<(l0.length:Int):=of_decide_eq_true (by first|(with_reducible assumption)|assumption);obtain ⟨qow,qpp,qnd⟩:=Kd.at_int HR0.out Y8 qhl qhy;cases qpp;replace qhl:=eq_true qhl;replace qhy:=eq_true qhy;have qhm:0≤(Y8:Int):=of_decide_eq_true (by first|(with_reducible assumption)|assumption);have qhz:Y8<(l1.length:Int):=of_decide_eq_true (by first|(with_reducible assumption)|assumption);obtain ⟨qox,qpq,qne⟩:=Kd.at_int HR1.out Y8 qhm qhz;cases qpq;replace qhm:=eq_true qhm;replace qhz:=eq_true qhz
          go_wp2
          repeat (go_quiet (fail);try go_wp2)
          go_roundg kj2
          case measure=>have:=HK1.out;have:=HJ2.out;omega
          case rel=>exact ⟨(wrap64 (Y8+1)),(by first|rfl|(simp;done)|(simp [*];done)),H',⟨by have:=HK1.out;have:=HJ2.out;omega⟩,by repeat (first|exact Yg.refl _|apply Yg.step)⟩
         rw [if_neg c9] at H;have c9b0:((rd l0 Y8)==(rd l1 Y8))=false:=beq_eq_false_iff_ne.mpr c9;have c9b1:((rd l0 Y8) != (rd l1 Y8))=true:=bne_iff_ne.mpr c9;obtain rfl:=Option.some.inj H;have qhl:0≤(Y8:Int):=of_decide_eq_true (by first|(with_reducible assumption)|assumption);have qhy:Y8<(l0.length:Int):=of_decide_eq_true (by first|(with_reducible assumption)|assumption);obtain ⟨qow,qpp,qnd⟩:=Kd.at_int HR0.out Y8 qhl qhy;cases qpp;replace qhl:=eq_true qhl;replace qhy:=eq_true qhy;have qhm:0≤(Y8:Int):=of_decide_eq_true (by first|(with_reducible assumption)|assumption);have qhz:Y8<(l1.length:Int):=of_decide_eq_true (by first|(with_reducible assumption)|assumption);obtain ⟨qox,qpq,qne⟩:=Kd.at_int HR1.out Y8 qhm qhz;cases qpq;replace qhm:=eq_true qhm;replace qhz:=eq_true qhz;have qpW:0≤(Y8:Int):=of_decide_eq_true (by first|(with_reducible assumption)|assumption);have qp2:Y8<(l0.length:Int):=of_decide_eq_true (by first|(with_reducible assumption)|assumption);obtain ⟨qq2,qzy,qy0⟩:=Kd.at_int HR0.out Y8 qpW qp2;obtain rfl:qow=qq2:=(by injection qzy);replace qpW:=eq_true qpW;replace qp2:=eq_true qp2;have qpX:0≤(Y8:Int):=of_decide_eq_true (by first|(with_reducible assumption)|assumption);have qp3:Y8<(l1.length:Int):=of_decide_eq_true (by first|(with_reducible assumption)|assumption);obtain ⟨qq3,qzz,qy1⟩:=Kd.at_int HR1.out Y8 qpX qp3;obtain rfl:qox=qq3:=(by injection qzz);replace qpX:=eq_true qpX;replace qp3:=eq_true qp3
         go_wp2
         repeat (go_quiet (fail);try go_wp2)
         go_ret
         exact ⟨by first|rfl|(simp;done)|(simp [*];done),by repeat (first|exact Yg.refl _|apply Yg.step)⟩
        rw [if_neg c8] at H
        exact absurd H (by simp)
       rw [if_neg c7] at H
       exact absurd H (by simp)
      rw [if_neg c6] at H
      exact absurd H (by simp)
     replace c5:=Bool.eq_false_iff.mpr c5;subst c5
     have H1:(some (decide ((l0.length:Int)<(l1.length:Int))))=some r:=by rw [if_neg (show ¬ (false=true) by decide)] at H;exact H
     clear H;have H:=H1;clear H1;obtain rfl:=Option.some.inj H
     go_wp2
     repeat (go_quiet (fail);try go_wp2)
     go_ret
     exact ⟨by first|rfl|(simp;done)|(simp [*];done),by repeat (first|exact Yg.refl _|apply Yg.step)⟩
end
section
attribute [local go_sem] Yn Yp YA YC Yb Yc Yo Yq
mutual
def Qp.l0:Nat→List (YQ)→List (List Int)→List Int→List Bool→Int→Int→Int→Option (Int × Int)
 | 0,_,_,_,_,_,_,_=>none
 | k+1,x0,x1,x2,x8,x9,x10,x11=>if x11<(x2.length:Int) then (Qp.l1 k x0 x1 x2 x8 x9 x10 x11 0) else (some (x9,x10))
def Qp.l1:Nat→List (YQ)→List (List Int)→List Int→List Bool→Int→Int→Int→Int→Option (Int × Int)
 | 0,_,_,_,_,_,_,_,_=>none
 | k+1,x0,x1,x2,x8,x9,x10,x11,x12=>if 0≤x11 then (if x11<(x2.length:Int) then (if 0≤(rd x2 x11) then (if (rd x2 x11)<(x1.length:Int) then (if x12<((QB x1 (rd x2 x11)).length:Int) then (if 0≤x12 then (if 0≤(rd (QB x1 (rd x2 x11)) x12) then (if (rd (QB x1 (rd x2 x11)) x12)<(x8.length:Int) then (if (rdOf false x8 (rd (QB x1 (rd x2 x11)) x12)=true) then (Qp.l1 k x0 x1 x2 x8 x9 x10 x11 (wrap64 (x12+1))) else (if (rd (QB x1 (rd x2 x11)) x12)<(x0.length:Int) then (Qp.l1 k x0 x1 x2 (x8.set ((rd (QB x1 (rd x2 x11)) x12):Int).toNat true) (wrap64 (x9+((ZM x0 (rd (QB x1 (rd x2 x11)) x12)).f0))) (wrap64 (x10+((ZM x0 (rd (QB x1 (rd x2 x11)) x12)).f1))) x11 (wrap64 (x12+1))) else (none))) else (none)) else (none)) else (none)) else (Qp.l0 k x0 x1 x2 x8 x9 x10 (wrap64 (x11+1)))) else (none)) else (none)) else (none)) else (none)
end
def Qp.f (k:Nat) (l0:List (YQ)) (l1:List (List Int)) (l2:List Int):Option (Int × Int):=if 0≤(l0.length:Int) then (if ((l0.length:Int):Int).toNat≤281474976710656 then (Qp.l0 k l0 l1 l2 (List.replicate ((l0.length:Int):Int).toNat false) 0 0 0) else (none)) else (none)
set_option maxHeartbeats 8000000 in
set_option maxRecDepth 100000 in
theorem Qp.calls (k:Nat) (A0:Option Addr) (c0:Nat) (l0:List (YQ)) (A1:Option Addr) (c1:Nat) (l1:List (List Int)) (A2:Option Addr) (c2:Nat) (l2:List Int) (r1:Int) (r2:Int) (w:World) (hr0:Kd.C W7 w A0 l0.length l0) (hc0:l0.length≤c0) (hr1:Kd.C (Kd.slice 3 (Kd.int .i64)) w A1 l1.length l1) (hc1:l1.length≤c1) (hr2:Kd.C (Kd.int .i64) w A2 l2.length l2) (hc2:l2.length≤c2) (h:Qp.f k l0 l1 l2=some (r1,r2)) :
  Calls Try.prog 54 #[.slice A0 l0.length c0,.slice A1 l1.length c1,.slice A2 l2.length c2] w fun e w'=>e = .returned (.tuple #[.int .i64 r1,.int .i64 r2])∧Below w.heap.size w w':=by
 have HR0:=Q0.mk hr0
 have HC0:=Q0.mk hc0
 clear hr0 hc0
 have HR1:=Q0.mk hr1
 have HC1:=Q0.mk hc1
 clear hr1 hc1
 have HR2:=Q0.mk hr2
 have HC2:=Q0.mk hc2
 clear hr2 hc2
 have HB:=Q0.mk (Below.refl w.heap.size w)
 have H:(if 0≤(l0.length:Int) then (if ((l0.length:Int):Int).toNat≤281474976710656 then (Qp.l0 k l0 l1 l2 (List.replicate ((l0.length:Int):Int).toNat false) 0 0 0) else (none)) else (none))=some (r1,r2):=h
 clear h
 by_cases c4:0≤(l0.length:Int)
 ·
  rw [if_pos c4] at H
  have c4b0:=eq_true c4
  have c4b1:decide (0≤(l0.length:Int))=true:=decide_eq_true c4
  clear c4
  by_cases c5:((l0.length:Int):Int).toNat≤281474976710656
  ·
   rw [if_pos c5] at H
   have c5b0:=eq_true c5
   have c5b1:decide (((l0.length:Int):Int).toNat≤281474976710656)=true:=decide_eq_true c5
   clear c5
   obtain ⟨qoP,qcw⟩:∃ y_:List Bool,y_=(List.replicate ((l0.length:Int):Int).toNat false):=⟨_,rfl⟩
   replace H:(Qp.l0 k l0 l1 l2 qoP 0 0 0)=some (r1,r2):=by first|(rw [qcw];with_reducible exact H)|(have H2_:=(Option.bind_some _ _).symm.trans H;rw [qcw];with_reducible exact H2_)|(have H2_:=(Option.bind_some _ _).symm.trans H;with_reducible exact H2_)|with_reducible exact H|(rw [qcw];exact H)|exact H
   have qjX:=Q0.mk qcw
   clear qcw
   have H':=Q0.mk H
   clear H
   go_enter Try.func54,Try.ntmps54
   go_wp2_with (first|((with_reducible refine QW (N:=16) rfl ?_);refine Kd.R_make Kd.bool _ 4 rfl (N:=16) rfl 145 _ _ rfl (l0.length:Int) rfl rfl Try.underlying145 (.bool false) 1 qs9 rfl (by decide) (by omega) false (ok:=fun _=>True) (okp:=fun _=>True) rfl (fun _ hk=>hk) trivial (of_decide_eq_true (by first|(with_reducible assumption)|assumption)) (Nat.le_trans (Nat.mul_le_mul_right _ (of_decide_eq_true (by first|(with_reducible assumption)|assumption):(l0.length:Int).toNat≤281474976710656)) (by omega)) (Below.refl _ _) (Nat.le_refl _) ?_;intro qoO w6 ho7 hb hg_ hnew_;clear hg_ hnew_;(first|rw [← qjX.out] at ho7|(simp only [Int.reduceToNat] at ho7;rw [← qjX.out] at ho7));have n0_:=Q0.mk (Kd.R_lower ho7 (Qf (by repeat (first|(with_reducible first|exact HB.out|apply Q3|apply Q1|apply Q6)|exact HB.out))));have n1_:=Q0.mk (Qm (by repeat (first|(with_reducible first|exact HB.out|apply Q3|apply Q1|apply Q6)|exact HB.out)) hb);clear HB;have qo1:=n0_;have HB:=n1_;clear n0_ n1_ hb ho7))
   go_loopg [9,10,11] k (fun kq v9 v10 v11 w' => ∃ (Oc:List Bool) (Od:Int) (qiJ:Int) (Yk:Int),v9 = .int .i64 Od∧v10 = .int .i64 qiJ∧v11 = .int .i64 Yk∧Q0 (Qp.l0 kq l0 l1 l2 Oc Od qiJ Yk=some (r1,r2))∧Q0 (kq≤k)∧Q0 (Kd.R Kd.bool 4 w' w.heap.size (fun _=>True) qoO Oc)∧Q0 (Below w.heap.size w w'))
   case atStart=>exact ⟨(qoP),(0),(0),(0),(by first|rfl|(simp;done)|(simp [*];done)),(by first|rfl|(simp;done)|(simp [*];done)),(by first|rfl|(simp;done)|(simp [*];done)),H',⟨Nat.le_refl _⟩,⟨by (with_reducible repeat (first|apply Kd.R_alloc|apply Kd.R_drewN|apply Kd.R_drew));exact qo1.out⟩,⟨by repeat (first|(with_reducible first|exact HB.out|apply Q3|apply Q1|apply Q6)|exact HB.out)⟩⟩
   case round =>
    clear H';(try clear c1);(try clear c2);(try clear p2);(try clear c4);(try clear c4b0);(try clear c4b1);(try clear c5);(try clear c5b0);(try clear c5b1);obtain ⟨Oc,Od,qiJ,Yk,rfl,rfl,rfl,HA,HK1,HO_8,HB⟩:=hrel
    cases gk with
    | zero=>exact absurd HA.out (by simp [Qp.l0])
    | succ k1 =>
     have H:=HA.out;clear HA;simp only [Qp.l0] at H
     by_cases c8:Yk<(l2.length:Int)
     ·
      rw [if_pos c8] at H;have c8b0:decide (Yk<(l2.length:Int))=true:=decide_eq_true c8;clear c8;have H':=Q0.mk H;clear H
      go_wp2
      go_loopg [9,10,12] k1 (fun kq v9 v10 v12 w' => ∃ (WH:List Bool) (Wc:Int) (Zp:Int) (Zo:Int),v9 = .int .i64 Wc∧v10 = .int .i64 Zp∧v12 = .int .i64 Zo∧Q0 (Qp.l1 kq l0 l1 l2 WH Wc Zp Yk Zo=some (r1,r2))∧Q0 (kq≤k1)∧Q0 (Kd.R Kd.bool 4 w' w.heap.size (fun _=>True) qoO WH)∧Q0 (Below w.heap.size w w'))
      case atStart=>exact ⟨(Oc),(Od),(qiJ),(0),(by first|rfl|(simp;done)|(simp [*];done)),(by first|rfl|(simp;done)|(simp [*];done)),(by first|rfl|(simp;done)|(simp [*];done)),H',⟨Nat.le_refl _⟩,⟨by (with_reducible repeat (first|apply Kd.R_alloc|apply Kd.R_drewN|apply Kd.R_drew));exact HO_8.out⟩,⟨by repeat (first|(with_reducible first|exact HB.out|apply Q3|apply Q1|apply Q6)|exact HB.out)⟩⟩
      case round =>
       clear H';(try clear c1);(try clear c2);(try clear p2);(try clear c4);(try clear c4b0);(try clear c4b1);(try clear c5);(try clear c5b0);(try clear c5b1);(try clear c8);(try clear c8b0);(try clear p2);obtain ⟨WH,Wc,Zp,Zo,rfl,rfl,rfl,HA,HK2,HO_8,HB⟩:=hrel
       cases gk with
       | zero=>exact absurd HA.out (by simp [Qp.l1])
       | succ k2 =>
        have H:=HA.out;clear HA;simp only [Qp.l1] at H
        by_cases c9:0≤Yk
        ·
         rw [if_pos c9] at H;have c9b0:decide (0≤Yk)=true:=decide_eq_true c9;clear c9
         by_cases c10:Yk<(l2.length:Int)
         ·
          rw [if_pos c10] at H;have c10b0:decide (Yk<(l2.length:Int))=true:=decide_eq_true c10;clear c10
          by_cases c11:0≤(rd l2 Yk)
          ·
           rw [if_pos c11] at H;have c11b0:decide (0≤(rd l2 Yk))=true:=decide_eq_true c11;clear c11
           by_cases c12:(rd l2 Yk)<(l1.length:Int)
           ·
            rw [if_pos c12] at H;have c12b0:decide ((rd l2 Yk)<(l1.length:Int))=true:=decide_eq_true c12;clear c12
            by_cases c13:Zo<((QB l1 (rd l2 Yk)).length:Int)
            ·
             rw [if_pos c13] at H;have c13b0:decide (Zo<((QB l1 (rd l2 Yk)).length:Int))=true:=decide_eq_true c13;clear c13
             by_cases c14:0≤Zo
             ·
              rw [if_pos c14] at H;have c14b0:decide (0≤Zo)=true:=decide_eq_true c14;clear c14
              by_cases c15:0≤(rd (QB l1 (rd l2 Yk)) Zo)
              ·
               rw [if_pos c15] at H;have c15b0:decide (0≤(rd (QB l1 (rd l2 Yk)) Zo))=true:=decide_eq_true c15;clear c15
               by_cases c16:(rd (QB l1 (rd l2 Yk)) Zo)<(WH.length:Int)
               ·
                rw [if_pos c16] at H;have c16b0:decide ((rd (QB l1 (rd l2 Yk)) Zo)<(WH.length:Int))=true:=decide_eq_true c16;clear c16;obtain ⟨qq5,qkD⟩:∃ b_:Bool,b_=(rdOf false WH (rd (QB l1 (rd l2 Yk)) Zo)):=⟨_,rfl⟩
                replace H:(if (qq5=true) then (Qp.l1 k2 l0 l1 l2 WH Wc Zp Yk (wrap64 (Zo+1))) else (if (rd (QB l1 (rd l2 Yk)) Zo)<(l0.length:Int) then (Qp.l1 k2 l0 l1 l2 (WH.set ((rd (QB l1 (rd l2 Yk)) Zo):Int).toNat true) (wrap64 (Wc+((ZM l0 (rd (QB l1 (rd l2 Yk)) Zo)).f0))) (wrap64 (Zp+((ZM l0 (rd (QB l1 (rd l2 Yk)) Zo)).f1))) Yk (wrap64 (Zo+1))) else (none)))=some (r1,r2):=by rw [← qkD] at H;exact H
                have qn2:=Q0.mk qkD;clear qkD
                by_cases c18:(qq5=true)
                ·
                 subst c18
                 have H1:(Qp.l1 k2 l0 l1 l2 WH Wc Zp Yk (wrap64 (Zo+1)))=some (r1,r2):=by rw [if_pos rfl] at H;exact H
                 clear H;have H:=H1;clear H1;have H':=Q0.mk H;clear H;have WB:0≤(Yk:Int):=of_decide_eq_true (by first|(with_reducible assumption)|assumption);have WE:Yk<(l2.length:Int):=of_decide_eq_true (by first|(with_reducible assumption)|assumption);obtain ⟨qdK,qfj,Gu⟩:=Kd.at_int HR2.out Yk WB WE;cases qfj;replace Gu:=(HB.out.cell (World.block_lt_of_cell? w _ Gu)).trans Gu;replace WB:=eq_true WB;replace WE:=eq_true WE;have WC:0≤((rd l2 Yk):Int):=of_decide_eq_true (by first|(with_reducible assumption)|assumption);have WF:(rd l2 Yk)<(l1.length:Int):=of_decide_eq_true (by first|(with_reducible assumption)|assumption);obtain ⟨qdL,qhT,qie,qfk,G0,O8,O7⟩:=Wm HR1.out (rd l2 Yk) WC WF;cases qfk;replace G0:=(HB.out.cell (World.block_lt_of_cell? w _ G0)).trans G0;have qfa:=Q0.mk O7;have qe9:=Q0.mk O8;clear O7 O8;replace WC:=eq_true WC;replace WF:=eq_true WF;have qcz:0≤(Yk:Int):=of_decide_eq_true (by first|(with_reducible assumption)|assumption);have qcE:Yk<(l2.length:Int):=of_decide_eq_true (by first|(with_reducible assumption)|assumption);obtain ⟨qgG,qkg,OE⟩:=Kd.at_int HR2.out Yk qcz qcE;obtain rfl:qdK=qgG:=(by injection qkg);replace OE:=(HB.out.cell (World.block_lt_of_cell? w _ OE)).trans OE;replace qcz:=eq_true qcz;replace qcE:=eq_true qcE;have qcA:0≤((rd l2 Yk):Int):=of_decide_eq_true (by first|(with_reducible assumption)|assumption);have qcF:(rd l2 Yk)<(l1.length:Int):=of_decide_eq_true (by first|(with_reducible assumption)|assumption);obtain ⟨qgH,qlu,qlJ,qkh,Kz,Ww,Wu⟩:=Wm HR1.out (rd l2 Yk) qcA qcF;obtain rfl:qdL=qgH:=(by injection qkh);replace Kz:=(HB.out.cell (World.block_lt_of_cell? w _ Kz)).trans Kz;have qca:=Q0.mk Wu;have qjQ:=Q0.mk Ww;clear Wu Ww;replace qcA:=eq_true qcA;replace qcF:=eq_true qcF;have ea_:=Option.some.inj (G0.symm.trans Kz)
                 injection ea_ with ea_ en_ ec_
                 subst ea_;subst ec_;clear en_;have qcB:0≤(Zo:Int):=of_decide_eq_true (by first|(with_reducible assumption)|assumption);have qcG:Zo<((QB l1 (rd l2 Yk)).length:Int):=of_decide_eq_true (by first|(with_reducible assumption)|assumption);obtain ⟨qo8,qki,OG⟩:=Kd.at_int qca.out Zo qcB qcG;cases qki;replace OG:=(HB.out.cell (World.block_lt_of_cell? w _ OG)).trans OG;replace qcB:=eq_true qcB;replace qcG:=eq_true qcG;obtain ⟨qCD,qCI,qzD⟩:=Kd.R_slice HO_8.out;subst qzD;have qcC:0≤((rd (QB l1 (rd l2 Yk)) Zo):Int):=of_decide_eq_true (by first|(with_reducible assumption)|assumption);have qcH:(rd (QB l1 (rd l2 Yk)) Zo)<(WH.length:Int):=of_decide_eq_true (by first|(with_reducible assumption)|assumption);obtain ⟨qo9,qkj,qaq⟩:=Kd.at_bool (Kd.R_reads' HO_8.out).2.2 (rd (QB l1 (rd l2 Yk)) Zo) qcC qcH
                 (try rw [← qn2.out] at qaq)
                 cases qkj;replace qcC:=eq_true qcC;replace qcH:=eq_true qcH
                 go_wp2
                 go_roundg k2
                 case measure=>have:=HK1.out;have:=HK2.out;omega
                 case rel=>exact ⟨(WH),(Wc),(Zp),(wrap64 (Zo+1)),(by first|rfl|(simp;done)|(simp [*];done)),(by first|rfl|(simp;done)|(simp [*];done)),(by first|rfl|(simp;done)|(simp [*];done)),H',⟨by have:=HK1.out;have:=HK2.out;omega⟩,⟨by (with_reducible repeat (first|apply Kd.R_alloc|apply Kd.R_drewN|apply Kd.R_drew));exact HO_8.out⟩,⟨by repeat (first|(with_reducible first|exact HB.out|apply Q3|apply Q1|apply Q6)|exact HB.out)⟩⟩
                replace c18:=Bool.eq_false_iff.mpr c18;subst c18
                have H1:(if (rd (QB l1 (rd l2 Yk)) Zo)<(l0.length:Int) then (Qp.l1 k2 l0 l1 l2 (WH.set ((rd (QB l1 (rd l2 Yk)) Zo):Int).toNat true) (wrap64 (Wc+((ZM l0 (rd (QB l1 (rd l2 Yk)) Zo)).f0))) (wrap64 (Zp+((ZM l0 (rd (QB l1 (rd l2 Yk)) Zo)).f1))) Yk (wrap64 (Zo+1))) else (none))=some (r1,r2):=by rw [if_neg (show ¬ (false=true) by decide)] at H;exact H
                clear H;have H:=H1;clear H1;obtain ⟨qlr,qcx⟩:∃ y_:List Bool,y_=(WH.set ((rd (QB l1 (rd l2 Yk)) Zo):Int).toNat true):=⟨_,rfl⟩
                replace H:(if (rd (QB l1 (rd l2 Yk)) Zo)<(l0.length:Int) then (Qp.l1 k2 l0 l1 l2 qlr (wrap64 (Wc+((ZM l0 (rd (QB l1 (rd l2 Yk)) Zo)).f0))) (wrap64 (Zp+((ZM l0 (rd (QB l1 (rd l2 Yk)) Zo)).f1))) Yk (wrap64 (Zo+1))) else (none))=some (r1,r2):=by first|(rw [qcx];with_reducible exact H)|(have H2_:=(Option.bind_some _ _).symm.trans H;rw [qcx];with_reducible exact H2_)|(have H2_:=(Option.bind_some _ _).symm.trans H;with_reducible exact H2_)|with_reducible exact H|(rw [qcx];exact H)|exact H
                have qo4:=Q0.mk qcx;clear qcx
                by_cases c21:(rd (QB l1 (rd l2 Yk)) Zo)<(l0.length:Int)
                ·
                 rw [if_pos c21] at H;have c21b0:decide ((rd (QB l1 (rd l2 Yk)) Zo)<(l0.length:Int))=true:=decide_eq_true c21;clear c21;have H':=Q0.mk H;clear H;have WB:0≤(Yk:Int):=of_decide_eq_true (by first|(with_reducible assumption)|assumption);have WE:Yk<(l2.length:Int):=of_decide_eq_true (by first|(with_reducible assumption)|assumption);obtain ⟨qdK,qfj,Gu⟩:=Kd.at_int HR2.out Yk WB WE;cases qfj;replace Gu:=(HB.out.cell (World.block_lt_of_cell? w _ Gu)).trans Gu;replace WB:=eq_true WB;replace WE:=eq_true WE;have WC:0≤((rd l2 Yk):Int):=of_decide_eq_true (by first|(with_reducible assumption)|assumption);have WF:(rd l2 Yk)<(l1.length:Int):=of_decide_eq_true (by first|(with_reducible assumption)|assumption);obtain ⟨qdL,qhT,qie,qfk,G0,O8,O7⟩:=Wm HR1.out (rd l2 Yk) WC WF;cases qfk;replace G0:=(HB.out.cell (World.block_lt_of_cell? w _ G0)).trans G0;have qfa:=Q0.mk O7;have qe9:=Q0.mk O8;clear O7 O8;replace WC:=eq_true WC;replace WF:=eq_true WF;have qcz:0≤(Yk:Int):=of_decide_eq_true (by first|(with_reducible assumption)|assumption);have qcE:Yk<(l2.length:Int):=of_decide_eq_true (by first|(with_reducible assumption)|assumption);obtain ⟨qgG,qkg,OE⟩:=Kd.at_int HR2.out Yk qcz qcE;obtain rfl:qdK=qgG:=(by injection qkg);replace OE:=(HB.out.cell (World.block_lt_of_cell? w _ OE)).trans OE;replace qcz:=eq_true qcz;replace qcE:=eq_true qcE;have qcA:0≤((rd l2 Yk):Int):=of_decide_eq_true (by first|(with_reducible assumption)|assumption);have qcF:(rd l2 Yk)<(l1.length:Int):=of_decide_eq_true (by first|(with_reducible assumption)|assumption);obtain ⟨qgH,qlu,qlJ,qkh,Kz,Ww,Wu⟩:=Wm HR1.out (rd l2 Yk) qcA qcF;obtain rfl:qdL=qgH:=(by injection qkh);replace Kz:=(HB.out.cell (World.block_lt_of_cell? w _ Kz)).trans Kz;have qca:=Q0.mk Wu;have qjQ:=Q0.mk Ww;clear Wu Ww;replace qcA:=eq_true qcA;replace qcF:=eq_true qcF;have ea_:=Option.some.inj (G0.symm.trans Kz)
                 injection ea_ with ea_ en_ ec_
                 subst ea_;subst ec_;clear en_;have qcB:0≤(Zo:Int):=of_decide_eq_true (by first|(with_reducible assumption)|assumption);have qcG:Zo<((QB l1 (rd l2 Yk)).length:Int):=of_decide_eq_true (by first|(with_reducible assumption)|assumption);obtain ⟨qo8,qki,OG⟩:=Kd.at_int qca.out Zo qcB qcG;cases qki;replace OG:=(HB.out.cell (World.block_lt_of_cell? w _ OG)).trans OG;replace qcB:=eq_true qcB;replace qcG:=eq_true qcG;obtain ⟨qy7,qra,qps⟩:=Kd.R_slice HO_8.out;subst qps;have qcC:0≤((rd (QB l1 (rd l2 Yk)) Zo):Int):=of_decide_eq_true (by first|(with_reducible assumption)|assumption);have qcH:(rd (QB l1 (rd l2 Yk)) Zo)<(WH.length:Int):=of_decide_eq_true (by first|(with_reducible assumption)|assumption);obtain ⟨qo9,qkj,qaq⟩:=Kd.at_bool (Kd.R_reads' HO_8.out).2.2 (rd (QB l1 (rd l2 Yk)) Zo) qcC qcH
                 (try rw [← qn2.out] at qaq)
                 cases qkj;replace qcC:=eq_true qcC;replace qcH:=eq_true qcH;have p20:0≤((rd (QB l1 (rd l2 Yk)) Zo):Int):=of_decide_eq_true (by first|(with_reducible assumption)|assumption);have q20:((rd (QB l1 (rd l2 Yk)) Zo):Int)<((WH.length:Int):Int):=of_decide_eq_true (by first|(with_reducible assumption)|assumption);obtain ⟨qpw,qlL,qi6,qrk,qzQ,qCH,qqC⟩:=Kd.R_form HO_8.out (by omega)
                 (first|cases qi6|(injection qi6 with ea_ en_ ec_;(first|subst ea_|(injection ea_ with ea_;subst ea_));subst ec_;clear en_))
                 have qzb:=Q0.mk qrk;have qCE:=Q0.mk qqC;clear qrk qzQ qqC
                 (first|simp only [KV] at qaq|skip)
                 obtain ⟨qAs,qzZ⟩:=Kd.R_celln false HO_8.out ((rd (QB l1 (rd l2 Yk)) Zo):Int) p20 q20;replace p20:=eq_true p20;replace q20:=eq_true q20;have qo2:=Kd.R_putg HO_8.out ((rd (QB l1 (rd l2 Yk)) Zo):Int) true
                 go_wp2_with (first|((with_reducible refine qgU (t:=4) (p:=52) rfl ?_);refine qge (t:=4) (p:=52) (v:=?vo_w24) (w1:=(wr.setCell ⟨qpw,((rd (QB l1 (rd l2 Yk)) Zo):Int).toNat,none⟩ (.bool true))) ?hg ?ho ?hn ?hr ?_;(case ho=>rfl);(case hg=>rfl);(case hn=>rfl);(case hr=>first|(go_simp;done)|(go_simp;rfl));intro w24 hw;have hg:wr.grownBy w24 (some qpw):=(by rw [hw];exact qo2.2);have hp_:Kd.R Kd.bool 4 w24 w.heap.size (fun _=>True) (.slice (some ⟨qpw,0,none⟩) WH.length qra) qlr:=(by rw [hw,qo4.out];exact qo2.1);clear qo2;have n0_:=Q0.mk (hp_);have n1_:=Q0.mk ((by rw [hw];exact Q5 (HB.out) qzb.out:Below w.heap.size w w24));clear HO_8 HB;have HO_8:=n0_;have HB:=n1_;clear n0_ n1_ hg hw hp_;have qk1:0≤((rd (QB l1 (rd l2 Yk)) Zo):Int):=of_decide_eq_true (by first|(with_reducible assumption)|assumption);have qk6:(rd (QB l1 (rd l2 Yk)) Zo)<(l0.length:Int):=of_decide_eq_true (by first|(with_reducible assumption)|assumption);obtain ⟨qpa,qrg,qcs,qct⟩:=qbo HR0.out (rd (QB l1 (rd l2 Yk)) Zo) qk1 qk6;cases qrg;replace qcs:=(HB.out.cell (World.block_lt_of_cell? w _ qcs)).trans qcs;replace qct:=(HB.out.cell (World.block_lt_of_cell? w _ qct)).trans qct;replace qk1:=eq_true qk1;replace qk6:=eq_true qk6;have qk2:0≤((rd (QB l1 (rd l2 Yk)) Zo):Int):=of_decide_eq_true (by first|(with_reducible assumption)|assumption);have qk7:(rd (QB l1 (rd l2 Yk)) Zo)<(l0.length:Int):=of_decide_eq_true (by first|(with_reducible assumption)|assumption);obtain ⟨qpb,qrh,qcu,qcv⟩:=qbo HR0.out (rd (QB l1 (rd l2 Yk)) Zo) qk2 qk7;obtain rfl:qpa=qpb:=(by injection qrh);replace qcu:=(HB.out.cell (World.block_lt_of_cell? w _ qcu)).trans qcu;replace qcv:=(HB.out.cell (World.block_lt_of_cell? w _ qcv)).trans qcv;replace qk2:=eq_true qk2;replace qk7:=eq_true qk7))
                 go_roundg k2
                 case measure=>have:=HK1.out;have:=HK2.out;omega
                 case rel=>exact ⟨(qlr),(wrap64 (Wc+((ZM l0 (rd (QB l1 (rd l2 Yk)) Zo)).f0))),(wrap64 (Zp+((ZM l0 (rd (QB l1 (rd l2 Yk)) Zo)).f1))),(wrap64 (Zo+1)),(by first|rfl|(simp;done)|(simp [*];done)),(by first|rfl|(simp;done)|(simp [*];done)),(by first|rfl|(simp;done)|(simp [*];done)),H',⟨by have:=HK1.out;have:=HK2.out;omega⟩,⟨by (with_reducible repeat (first|apply Kd.R_alloc|apply Kd.R_drewN|apply Kd.R_drew));exact HO_8.out⟩,⟨by repeat (first|(with_reducible first|exact HB.out|apply Q3|apply Q1|apply Q6)|exact HB.out)⟩⟩
                rw [if_neg c21] at H
                exact absurd H (by simp)
               rw [if_neg c16] at H
               exact absurd H (by simp)
              rw [if_neg c15] at H
              exact absurd H (by simp)
             rw [if_neg c14] at H
             exact absurd H (by simp)
            rw [if_neg c13] at H;have c13b0:decide (Zo<((QB l1 (rd l2 Yk)).length:Int))=false:=decide_eq_false c13;clear c13;have H':=Q0.mk H;clear H;have WB:0≤(Yk:Int):=of_decide_eq_true (by first|(with_reducible assumption)|assumption);have WE:Yk<(l2.length:Int):=of_decide_eq_true (by first|(with_reducible assumption)|assumption);obtain ⟨qdK,qfj,Gu⟩:=Kd.at_int HR2.out Yk WB WE;cases qfj;replace Gu:=(HB.out.cell (World.block_lt_of_cell? w _ Gu)).trans Gu;replace WB:=eq_true WB;replace WE:=eq_true WE;have WC:0≤((rd l2 Yk):Int):=of_decide_eq_true (by first|(with_reducible assumption)|assumption);have WF:(rd l2 Yk)<(l1.length:Int):=of_decide_eq_true (by first|(with_reducible assumption)|assumption);obtain ⟨qdL,qhT,qie,qfk,G0,O8,O7⟩:=Wm HR1.out (rd l2 Yk) WC WF;cases qfk;replace G0:=(HB.out.cell (World.block_lt_of_cell? w _ G0)).trans G0;have qfa:=Q0.mk O7;have qe9:=Q0.mk O8;clear O7 O8;replace WC:=eq_true WC;replace WF:=eq_true WF
            go_wp2
            go_roundg k2
            case measure=>have:=HK1.out;have:=HK2.out;omega
            case rel=>exact ⟨(WH),(Wc),(Zp),(wrap64 (Yk+1)),(by first|rfl|(simp;done)|(simp [*];done)),(by first|rfl|(simp;done)|(simp [*];done)),(by first|rfl|(simp;done)|(simp [*];done)),H',⟨by have:=HK1.out;have:=HK2.out;omega⟩,⟨by (with_reducible repeat (first|apply Kd.R_alloc|apply Kd.R_drewN|apply Kd.R_drew));exact HO_8.out⟩,⟨by repeat (first|(with_reducible first|exact HB.out|apply Q3|apply Q1|apply Q6)|exact HB.out)⟩⟩
           rw [if_neg c12] at H
           exact absurd H (by simp)
          rw [if_neg c11] at H
          exact absurd H (by simp)
         rw [if_neg c10] at H
         exact absurd H (by simp)
        rw [if_neg c9] at H
        exact absurd H (by simp)
     rw [if_neg c8] at H;have c8b0:decide (Yk<(l2.length:Int))=false:=decide_eq_false c8;clear c8;simp only [Option.some.injEq,Prod.mk.injEq] at H;obtain ⟨rfl,rfl⟩:=H
     go_wp2
     go_ret2
     exact ⟨by first|rfl|(simp [Qq,Qr]<;>rfl)|(simp [*,Qq,Qr]<;>rfl),by repeat (first|(with_reducible first|exact HB.out|apply Q3|apply Q1|apply Q6)|exact HB.out)⟩
  rw [if_neg c5] at H
  exact absurd H (by simp)
 rw [if_neg c4] at H
 exact absurd H (by simp)
end
end Go.Proofs.Ytmhomdohhihlcaa.P
namespace Go.Proofs.Ytmhomdohhihlcaa.P
open Go.RowKit Go.Maps Go.Proofs.YtmhomdohhihlcaaW.PrintWords Go.Proofs.YtmhomdohhihlcaaW.PrintLast Go.Proofs.YtmhomdohhihlcaaW.PrintMore
theorem qnj:laidOutB Try.prog=true:=by kernel_rfl
theorem WA:Keyed Try.prog 139:=Keyed.of_law (deep_law_laid qnj (m:=2) (by omega) (of_decide_eq_true (by kernel_rfl)) (by kernel_rfl) (by rw [Try.underlying139]))
theorem qg5:Try.prog.keyType 139=true:=by kernel_rfl
theorem qfi:Try.prog.cellsOf 139=1:=by kernel_rfl
theorem qpf:Try.prog.cellsOf 3=1:=by kernel_rfl
theorem qhI:∃ m,Try.prog.types.size=m+1:=⟨Try.prog.types.size-1,by
 have:0<Try.prog.types.size:=of_decide_eq_true (by kernel_rfl)
 omega⟩
theorem qeo {c:Int} (hc:(Lit.int .i64 c).wf=true):keyOf Try.prog 139 (.agg #[.int .i64 c])=some (.string (keyBytes [.int .i64 c])):=by
 obtain ⟨m,hm⟩:=qhI
 have hkt:=qg5
 unfold keyOf
 simp only [Try.underlying139]
 rw [if_pos (by simp [hkt,Value.formed,Try.underlying139,qfi]),hm]
 unfold Program.keyLits
 simp only [Try.underlying139,Value.cells]
 rw [if_pos (by rw [qfi];exact ⟨rfl,by simp⟩)]
 simp [qpf,Program.keyLits,Try.underlying3,hc]
def QP.l (x:Int):Nat→List YQ→Int→Int→Int × Int
 | _,[],a,b=>(a,b)
 | i,c::cs,a,b=>if (Go.bits .and .i64 (shr .i64 x (i:Int)) 1==1)=true then QP.l x (i+1) cs (wrap64 (a+c.f0)) (wrap64 (b+c.f1)) else QP.l x (i+1) cs a b
def QP.s (cells:List YQ) (x:Int):Int × Int:=QP.l x 0 cells 0 0
theorem qq4 (i:Nat):(Go.bits .and .i64 (shr .i64 0 (i:Int)) 1==1)=false:=by
 have:shr .i64 0 (i:Int)=0:=by simp [shr]
 rw [this]
 rfl
theorem qb1:∀ (cells:List YQ) (i:Nat) (a b:Int),QP.l 0 i cells a b=(a,b)
 | [],_,_,_=>rfl
 | c::cs,i,a,b=>by rw [QP.l,if_neg (by rw [qq4];decide)];exact qb1 cs _ _ _
def MapI (W:World) (bm:Nat) (cells:List YQ):Prop :=
 ∃ (es:Array MapEntry) (clock:Nat),W.heap[bm]? = some (.map es clock) ∧ ∀ e∈es.toList,∃ c:Int,(Lit.int .i64 c).wf=true∧e.key = .agg #[.int .i64 c]∧e.val = .agg #[.int .i64 (QP.s cells c).1,.int .i64 (QP.s cells c).2]
theorem MapI.lt {W:World} {bm:Nat} {cells:List YQ} (h:MapI W bm cells):bm<W.heap.size:=by
 obtain ⟨es,clock,hb,_⟩:=h
 exact (Array.getElem?_eq_some_iff.1 hb).1
theorem MapI.keep {W W1:World} {bm:Nat} {cells:List YQ} (h:MapI W bm cells) (hk:W1.heap[bm]? = W.heap[bm]?):MapI W1 bm cells:=by
 obtain ⟨es,clock,hb,hs⟩:=h
 exact ⟨es,clock,hk.trans hb,hs⟩
theorem qnU (w:World):(zeroValue 136).run Try.prog w = .ok (.agg #[.int .i64 0,.int .i64 0]) w:=by kernel_rfl
theorem qj8 {a b:Int} (h:(Value.agg #[.int .i64 a]) = .agg #[.int .i64 b]):a=b:=by
 injection h with h
 injection h with h
 injection h with h
 injection h
theorem MapI.look {W:World} {bm:Nat} {cells:List YQ} (h:MapI W bm cells) {x:Int} (hx:(Lit.int .i64 x).wf=true) :
  ∃ (b:Bool) (a1 a2:Int),((b=false∧a1=0∧a2=0)∨(b=true∧a1=(QP.s cells x).1∧a2=(QP.s cells x).2)) ∧
   ∀ W1:World,W1.heap[bm]? = W.heap[bm]? → (Instr.lookup 140 (.map (some bm)) (.agg #[.int .i64 x]) true).run Try.prog W1 = .ok (.tuple #[.agg #[.int .i64 a1,.int .i64 a2],.bool b]) W1:=by
 obtain ⟨es,clock,hb,hs⟩:=h
 have hkey:=qeo hx
 have hks:∀ e∈es.toList,∃ l,keyOf Try.prog 139 e.key=some l:=fun e he=>by
  obtain ⟨c,hc,hk,_⟩:=hs e he
  exact ⟨_,by rw [hk];exact qeo hc⟩
 by_cases hex:∃ e∈es.toList,e.key = .agg #[.int .i64 x]
 ·
  refine ⟨true,(QP.s cells x).1,(QP.s cells x).2,.inr ⟨rfl,rfl,rfl⟩,fun W1 hW => ?_⟩
  have hb1:=hW.trans hb
  rcases WA.find W1 hkey es.toList hks with ⟨h1,h2⟩|⟨j,e0,h1,h2,h3⟩
  ·
   obtain ⟨e,he,hk⟩:=hex
   exact absurd hk (h2 e he)
  ·
   have hm0:e0∈es.toList:=List.mem_of_getElem? h2
   obtain ⟨c,hc,hk,hv⟩:=hs e0 hm0
   have hcx:c=x:=qj8 (hk.symm.trans h3)
   subst hcx
   simp [Instr.lookup,run_underlying Try.underlying140,MapKept.run_getObj_map hb1,WA.check W1 _ hkey,h1,Result.andThen,hv]
 ·
  refine ⟨false,0,0,.inl ⟨rfl,rfl,rfl⟩,fun W1 hW => ?_⟩
  have hb1:=hW.trans hb
  rcases WA.find W1 hkey es.toList hks with ⟨h1,h2⟩|⟨j,e0,h1,h2,h3⟩
  ·
   simp [Instr.lookup,run_underlying Try.underlying140,MapKept.run_getObj_map hb1,WA.check W1 _ hkey,h1,Result.andThen,qnU]
  ·
   exact absurd ⟨e0,List.mem_of_getElem? h2,h3⟩ hex
theorem MapI.store {W:World} {bm:Nat} {cells:List YQ} (h:MapI W bm cells) {x:Int} (hx:(Lit.int .i64 x).wf=true) :
  ∃ W1,(Instr.mapUpdate 140 (.map (some bm)) (.agg #[.int .i64 x]) (.agg #[.int .i64 (QP.s cells x).1,.int .i64 (QP.s cells x).2])).run Try.prog W = .ok () W1∧MapI W1 bm cells∧W.grownBy W1 (some bm):=by
 obtain ⟨es,clock,hb,hs⟩:=h
 have hkey:=qeo hx
 have hks:∀ e∈es.toList,∃ l,keyOf Try.prog 139 e.key=some l:=fun e he=>by
  obtain ⟨c,hc,hk,_⟩:=hs e he
  exact ⟨_,by rw [hk];exact qeo hc⟩
 have hgr:∀ o,W.grownBy (ChangeMaps.setBlock W bm o) (some bm):=fun o=>⟨rfl,rfl,rfl,by simp [ChangeMaps.setBlock],fun i _ hi=>ChangeMaps.heap_setBlock_other hb _ (fun e=>hi (by rw [e]))⟩
 rcases WA.find W hkey es.toList hks with ⟨h1,h2⟩|⟨j,e0,h1,h2,h3⟩
 ·
  refine ⟨ChangeMaps.setBlock W bm (.map (es.push ⟨.agg #[.int .i64 x],.agg #[.int .i64 (QP.s cells x).1,.int .i64 (QP.s cells x).2],clock⟩) (clock+1)),?_,⟨_,_,ChangeMaps.heap_setBlock_same hb _,fun e he => ?_⟩,hgr _⟩
  ·
   simp [Instr.mapUpdate,run_underlying Try.underlying140,MapKept.run_getObj_map hb,WA.check W false hkey,h1,MapKept.run_setObj_map _ hb,Result.andThen,ChangeMaps.setBlock]
  ·
   simp only [Array.toList_push,List.mem_append,List.mem_singleton] at he
   rcases he with he|rfl
   ·
    exact hs e he
   ·
    exact ⟨x,hx,rfl,rfl⟩
 ·
  have hj:es[j]? = some e0:=by simpa using h2
  refine ⟨ChangeMaps.setBlock W bm (.map (es.modify j (fun e' => { e' with key:=.agg #[.int .i64 x],val:=.agg #[.int .i64 (QP.s cells x).1,.int .i64 (QP.s cells x).2] })) clock),?_,⟨_,_,ChangeMaps.heap_setBlock_same hb _,fun e he => ?_⟩,hgr _⟩
  ·
   simp [Instr.mapUpdate,run_underlying Try.underlying140,MapKept.run_getObj_map hb,WA.check W false hkey,h1,hj,h3,WA.stays W hkey,MapKept.run_setObj_map _ hb,Result.andThen,ChangeMaps.setBlock]
  ·
   rw [Array.toList_modify,ChangeMaps.modify_eq_set _ _ _ _ h2] at he
   rcases List.mem_or_eq_of_mem_set he with he|rfl
   ·
    exact hs e he
   ·
    exact ⟨x,hx,rfl,rfl⟩
theorem KY {P:Program} {ops:Array Oper} {rest:List Oper} {o:Oper} {a:Act} {Q:Exit→Act→World→Prop} {W:World} (hg:o.guard=none) (m x:Operand) (t:TypeId) (hop:o.op = .lookup t m x true) {vm vx v:Value} (hm:a.eval m=vm) (hx:a.eval x=vx)
  (hrun:(Instr.lookup t vm vx true).run P W = .ok v W) (h:wpList P ops Q rest (a.put o.dst v) W):wpList P ops Q (o::rest) a W:=by
 refine wpList_plain hg fun K' hK' => ?_
 unfold Oper.wp
 simp [execOp,hop,hm,hx,hrun,Result.andThen]
 exact hK' _ _ h
theorem X4 {P:Program} {ops:Array Oper} {rest:List Oper} {o:Oper} {a:Act} {Q:Exit→Act→World→Prop} {W W1:World} (hg:o.guard=none) (m x y:Operand) (t:TypeId) (hop:o.op = .mapUpdate t m x y) {vm vx v:Value} (hm:a.eval m=vm) (hx:a.eval x=vx) (hy:a.eval y=v)
  (hrun:(Instr.mapUpdate t vm vx v).run P W = .ok () W1) (h:wpList P ops Q rest (a.put o.dst undef) W1):wpList P ops Q (o::rest) a W:=by
 refine wpList_plain hg fun K' hK' => ?_
 unfold Oper.wp
 simp [execOp,hop,hm,hx,hy,hrun,Result.andThen]
 exact hK' _ _ h
theorem qpu (d:Nat) (w:World) (x0 y0:Int) :
  (Op.equalIn (d+2) 139 (.agg #[.int .i64 x0]) (.agg #[.int .i64 y0])).run Try.prog w = .ok (x0==y0) w:=by
 refine qkq Try.underlying139 (by kernel_rfl) ?_
 exact qfl (by rfl) (by go_simp;rfl) (by go_simp;rfl) (by go_simp)
attribute [local go_sem high] qpu
theorem qgd (x:Int) (cells:List YQ) (i:Nat) (h:i<cells.length) (a b:Int):QP.l x i (cells.drop i) a b=if (Go.bits .and .i64 (shr .i64 x (i:Int)) 1==1)=true then QP.l x (i+1) (cells.drop (i+1)) (wrap64 (a+(ZM cells (i:Int)).f0)) (wrap64 (b+(ZM cells (i:Int)).f1)) else QP.l x (i+1) (cells.drop (i+1)) a b:=by
 have e:ZM cells (i:Int)=cells[i]:=by simp [ZM,List.getD_eq_getElem?_getD,List.getElem?_eq_getElem h]
 rw [List.drop_eq_getElem_cons h,e]
 rfl
set_option maxHeartbeats 4000000 in
set_option maxRecDepth 100000 in
theorem qaT.calls (A:Option Addr) (n c bm:Nat) (cells:List YQ) (x:Int) (w:World) (hr:Kd.C W7 w A cells.length cells) (hc:cells.length≤c) (hx:(Lit.int .i64 x).wf=true) (hm:MapI w bm cells) :
  Calls Try.prog 91 #[.agg #[.slice A cells.length c,.map (some bm)],.agg #[.int .i64 x]] w fun e w' =>
   e = .returned (.agg #[.int .i64 (QP.s cells x).1,.int .i64 (QP.s cells x).2])∧MapI w' bm cells∧Kept w w' (fun k=>k=bm)∧Below bm w w':=by
 obtain ⟨b,a1,a2,hcase,hrun⟩:=hm.look hx
 have qoH:=Try.underlying142
 have qoG:=Try.underlying139
 have qkS:=Try.underlying136
 have hlt:=hm.lt
 cases b with
 | true =>
  obtain ⟨rfl,rfl⟩:a1=(QP.s cells x).1∧a2=(QP.s cells x).2:=by simpa using hcase
  have HR:=Q0.mk hrun
  clear hrun hcase
  obtain ⟨s1,hs1⟩:∃ s1,(QP.s cells x).1=s1:=⟨_,rfl⟩
  obtain ⟨s2,hs2⟩:∃ s2,(QP.s cells x).2=s2:=⟨_,rfl⟩
  rw [hs1,hs2] at HR ⊢
  go_enter Try.func91,Try.ntmps91
  go_wp2_with (at_lookup;refine KY rfl _ _ 140 rfl rfl rfl (HR.out _ ?hw) ?_;(case hw=>exact (Q3 (Q3 (Q3 (Below.refl w.heap.size w) _) _) _).block bm hlt))
  refine bodyPost_ret (v:=.agg #[.int .i64 s1,.int .i64 s2]) (by simp [results,Try.results91,go_sem]) rfl ⟨rfl,?_⟩
  have hB:=Q3 (Q3 (Q3 (Q3 (Below.refl w.heap.size w) (.cells #[.slice A cells.length c,.map (some bm)] 142)) (.cells #[.int .i64 x] 139)) (.cells #[.int .i64 s1,.int .i64 s2] 136)) (.cells #[.int .i64 s1,.int .i64 s2] 136)
  exact ⟨hm.keep (hB.block bm hlt),Kept.of_below hB _,hB.mono (by omega)⟩
 | false =>
  obtain ⟨rfl,rfl⟩:a1=0∧a2=0:=by simpa using hcase
  have HR:=Q0.mk hrun
  have HM:=Q0.mk hm
  clear hrun hcase hm
  by_cases hx0:x=0
  ·
   subst hx0
   have hs1:(QP.s cells 0).1=0:=by rw [QP.s,qb1]
   have hs2:(QP.s cells 0).2=0:=by rw [QP.s,qb1]
   rw [hs1,hs2]
   go_enter Try.func91,Try.ntmps91
   go_wp2_with (at_lookup;refine KY rfl _ _ 140 rfl rfl rfl (HR.out _ ?hw) ?_;(case hw=>exact (Q3 (Q3 (Q3 (Below.refl w.heap.size w) _) _) _).block bm hlt))
   refine bodyPost_ret (v:=.agg #[.int .i64 0,.int .i64 0]) (by simp [results,Try.results91,go_sem]) rfl ⟨rfl,?_⟩
   have hB:=Q3 (Q3 (Q3 (Q3 (Below.refl w.heap.size w) (.cells #[.slice A cells.length c,.map (some bm)] 142)) (.cells #[.int .i64 0] 139)) (.cells #[.int .i64 0,.int .i64 0] 136)) (.cells #[.int .i64 0,.int .i64 0] 136)
   exact ⟨HM.out.keep (hB.block bm hlt),Kept.of_below hB _,hB.mono (by omega)⟩
  ·
   have hxb:(x==0)=false:=by simpa using hx0
   have HRd:=Q0.mk hr
   have hmx:cells.length≤9223372036854775807:=hr.2.1
   clear hr
   obtain ⟨sm,hsm⟩:∃ sm,QP.s cells x=sm:=⟨_,rfl⟩
   have HSM:=Q0.mk hsm
   rw [hsm]
   clear hsm
   go_enter Try.func91,Try.ntmps91
   go_wp2_with (at_lookup;refine KY rfl _ _ 140 rfl rfl rfl (HR.out _ ?hw) ?_;(case hw=>exact (Q3 (Q3 (Q3 (Below.refl w.heap.size w) _) _) _).block bm hlt))
   go_loopg [26] cells.length (fun d v26 wr => ∃ (i:Nat),v26 = .int .i64 (i:Int)∧Q0 (i+d=cells.length)∧Q0 (∃ a b,wr.heap[w.heap.size+1+1+1]? = some (.cells #[.int .i64 a,.int .i64 b] 136 (0,0))∧QP.l x i (cells.drop i) a b=sm) ∧
    Q0 (wr.heap[w.heap.size]? = some (.cells #[.slice A cells.length c,.map (some bm)] 142 (0,0))∧wr.heap[w.heap.size+1]? = some (.cells #[.int .i64 x] 139 (0,0))∧wr.heap[w.heap.size+1+1]? = some (.cells #[.int .i64 0,.int .i64 0] 136 (0,0)))∧Q0 (Below w.heap.size w wr))
   case atStart =>
    refine ⟨0,rfl,⟨by omega⟩,⟨0,0,?_,HSM.out⟩,⟨?_,?_,?_⟩,⟨Q3 (Q3 (Q3 (Q3 (Below.refl w.heap.size w) _) _) _) _⟩⟩
    ·
     have:=World.alloc_heap_new (((w.alloc (.cells #[.slice A cells.length c,.map (some bm)] 142)).alloc (.cells #[.int .i64 x] 139)).alloc (.cells #[.int .i64 0,.int .i64 0] 136)) (.cells #[.int .i64 0,.int .i64 0] 136)
     rwa [World.size_alloc,World.size_alloc,World.size_alloc] at this
    ·
     exact Q2 (Q2 (Q2 (World.alloc_heap_new w _) _) _) _
    ·
     refine Q2 (Q2 ?_ _) _;have:=World.alloc_heap_new (w.alloc (.cells #[.slice A cells.length c,.map (some bm)] 142)) (.cells #[.int .i64 x] 139)
     rwa [World.size_alloc] at this
    ·
     refine Q2 ?_ _;have:=World.alloc_heap_new ((w.alloc (.cells #[.slice A cells.length c,.map (some bm)] 142)).alloc (.cells #[.int .i64 x] 139)) (.cells #[.int .i64 0,.int .i64 0] 136)
     rwa [World.size_alloc,World.size_alloc] at this
   case round =>
    obtain ⟨i,rfl,HD,HN,HK,HB⟩:=hrel;obtain ⟨a,b,hn,hl⟩:=HN.out;obtain ⟨hb0,hb1,hb2⟩:=HK.out;have qzR:wr.cell? ⟨w.heap.size,0,none⟩=some (.slice A cells.length c):=(Q8 hb0 0).trans rfl;have qzS:wr.cell? ⟨w.heap.size,1,none⟩=some (.map (some bm)):=(Q8 hb0 1).trans rfl;have hc1:wr.cell? ⟨w.heap.size+1,0,none⟩=some (.int .i64 x):=(Q8 hb1 0).trans rfl;have qzT:wr.cell? ⟨w.heap.size+1+1,0,none⟩=some (.int .i64 0):=(Q8 hb2 0).trans rfl;have hc21:wr.cell? ⟨w.heap.size+1+1,1,none⟩=some (.int .i64 0):=(Q8 hb2 1).trans rfl;have qzY:=Q9 hb2 0;have qz0:=Q9 hb2 1;have qCQ:wr.cell? ⟨w.heap.size+1+1+1,0,none⟩=some (.int .i64 a):=(Q8 hn 0).trans rfl;have hc31:wr.cell? ⟨w.heap.size+1+1+1,1,none⟩=some (.int .i64 b):=(Q8 hn 1).trans rfl;have qCY:=Q9 hn 0;have qCZ:=Q9 hn 1;have hlw:=QL hn;have hbx:∃ W,W=wr:=⟨_,rfl⟩;have HN':=Q0.mk hn;have HL:=Q0.mk hl;have HB0:=Q0.mk hb0;have HB1:=Q0.mk hb1;have HB2:=Q0.mk hb2;clear hn hl hb0 hb1 hb2 hbx HN HK
    by_cases hi:i<cells.length
    ·
     obtain ⟨d,rfl⟩:∃ d,gk=d+1:=⟨gk-1,by have:=HD.out;omega⟩;obtain ⟨ad,ea,hx0',qkT⟩:=qbo HRd.out (i:Int) (by omega) (by omega);subst ea;replace hx0':=(HB.out.cell (World.block_lt_of_cell? w _ hx0')).trans hx0';replace qkT:=(HB.out.cell (World.block_lt_of_cell? w _ qkT)).trans qkT;rw [Int.toNat_natCast] at hx0' qkT;have hst:=qgd x cells i hi a b;obtain ⟨ji4,qcW⟩:∃ j_:Int,(shr .i64 x (i:Int))=j_:=⟨_,rfl⟩;rw [qcW] at hst;have hji4_:(x / 2 ^ min ((i:Int)).toNat 64)=ji4:=qcW;have hji4z:(i:Int)≤64→(x / 2 ^ ((i:Int)).toNat)=ji4:=qds qcW;rw [Int.toNat_natCast] at hji4_ hji4z;clear qcW;obtain ⟨e0,he0⟩:∃ e0,(ZM cells (i:Int)).f0=e0:=⟨_,rfl⟩;obtain ⟨e1,he1⟩:∃ e1,(ZM cells (i:Int)).f1=e1:=⟨_,rfl⟩;rw [he0,he1] at hst;rw [he0] at hx0';rw [he1] at qkT;clear he0 he1;have hBa:=Q3 (Below.refl wr.heap.size wr) (.cells #[.int .i64 e0,.int .i64 e1] 136);have HBa:=Q0.mk hBa;have ha1:(wr.alloc (.cells #[.int .i64 e0,.int .i64 e1] 136)).cell? ⟨w.heap.size+1,0,none⟩=some (.int .i64 x):=(Q8 (Qe HB1.out hBa) 0).trans rfl;have qCJ:(wr.alloc (.cells #[.int .i64 e0,.int .i64 e1] 136)).cell? ⟨w.heap.size+1+1+1,0,none⟩=some (.int .i64 a):=(Q8 (Qe HN'.out hBa) 0).trans rfl;have qCK:(wr.alloc (.cells #[.int .i64 e0,.int .i64 e1] 136)).cell? ⟨w.heap.size+1+1+1,1,none⟩=some (.int .i64 b):=(Q8 (Qe HN'.out hBa) 1).trans rfl;have qAX:=Q9 (Qe HN'.out hBa) 0;have qAY:=Q9 (Qe HN'.out hBa) 1;clear hBa qzR qzS qzT hc21 qzY qz0
     by_cases hbit:(Go.bits .and .i64 ji4 1==1)=true
     ·
      rw [if_pos hbit] at hst;have HL2:=Q0.mk (hst.symm.trans HL.out);clear hst
      go_wp2
      go_roundg d
      case measure=>omega
      case rel =>
       refine ⟨i+1,by simp,⟨by have:=HD.out;omega⟩,⟨_,_,Q2 (Qu (Qu HN'.out 0 _ rfl) 1 _ rfl) _,HL2.out⟩,⟨?_,?_,?_⟩,⟨Q3 (Q5 (Q5 HB.out (by omega)) (by omega)) _⟩⟩
       ·
        exact Q2 (Qk (Qk HB0.out (p:=⟨w.heap.size+1+1+1,0,none⟩) (by simp;omega) _) (p:=⟨w.heap.size+1+1+1,1,none⟩) (by simp;omega) _) _
       ·
        exact Q2 (Qk (Qk HB1.out (p:=⟨w.heap.size+1+1+1,0,none⟩) (by simp) _) (p:=⟨w.heap.size+1+1+1,1,none⟩) (by simp) _) _
       ·
        exact Q2 (Qk (Qk HB2.out (p:=⟨w.heap.size+1+1+1,0,none⟩) (by simp) _) (p:=⟨w.heap.size+1+1+1,1,none⟩) (by simp) _) _
     ·
      replace hbit:=Bool.eq_false_iff.mpr hbit;rw [if_neg (by rw [hbit];decide)] at hst;have HL2:=Q0.mk (hst.symm.trans HL.out);clear hst
      go_wp2
      go_roundg d
      case measure=>omega
      case rel =>
       exact ⟨i+1,by simp,⟨by have:=HD.out;omega⟩,⟨_,_,Q2 HN'.out _,HL2.out⟩,⟨Q2 HB0.out _,Q2 HB1.out _,Q2 HB2.out _⟩,⟨Q3 HB.out _⟩⟩
    ·
     have hil:i=cells.length:=by have:=HD.out;omega
     subst hil
     have hfin:(a,b)=sm:=by
      have h5:=HL.out;rw [List.drop_length] at h5
      exact h5
     have qzf:=Q0.mk (show QP.s cells x=(a,b) by rw [hfin];exact HSM.out);subst hfin;clear HL HSM;obtain ⟨W1,qkP,hm1,hg1⟩:=(HM.out.keep (HB.out.block bm hlt)).store hx;rw [qzf.out] at qkP
     have hne:∀ k,w.heap.size≤k→some k≠some bm:=fun k hk e=>by injection e with e;omega
     have kp:∀ {g:Nat} {o:Obj},w.heap.size≤g→wr.heap[g]? = some o→W1.heap[g]? = some o:=fun {g o} hg ho=>(hg1.block g (Array.getElem?_eq_some_iff.1 ho).1 (hne g hg)).trans ho
     have qCV:W1.cell? ⟨w.heap.size+1+1+1,0,none⟩=some (.int .i64 a):=(Q8 (kp (by omega) HN'.out) 0).trans rfl;have hd31:W1.cell? ⟨w.heap.size+1+1+1,1,none⟩=some (.int .i64 b):=(Q8 (kp (by omega) HN'.out) 1).trans rfl;have qCT:W1.cell? ⟨w.heap.size+1+1,0,none⟩=some (.int .i64 0):=(Q8 (kp (by omega) HB2.out) 0).trans rfl;have qCU:W1.cell? ⟨w.heap.size+1+1,1,none⟩=some (.int .i64 0):=(Q8 (kp (by omega) HB2.out) 1).trans rfl;have qA0:=Q9 (kp (by omega) HB2.out) 0;have qA1:=Q9 (kp (by omega) HB2.out) 1;have HG1:=Q0.mk hg1;have HM1:=Q0.mk hm1;have HRU:=Q0.mk qkP;have HF2:=Q0.mk (kp (by omega) HB2.out);clear hg1 hm1 qkP kp hne
     go_wp2_with (at_mapUpdate;refine X4 rfl _ _ _ 140 rfl rfl rfl rfl HRU.out ?_)
     refine bodyPost_ret (v:=.agg #[.int .i64 a,.int .i64 b]) ?_ rfl ⟨rfl,?_⟩
     ·
      refine (results_cell_row rfl _ _ (w.heap.size+1+1) 136 #[.int .i64 a,.int .i64 b] (0,0) _ rfl (Qu (Qu HF2.out 0 _ rfl) 1 _ rfl) Try.underlying136 rfl (by kernel_rfl))
     ·
      have hK1:Kept w W1 (fun k=>k=bm):=(Kept.of_below HB.out _).of_grown HG1.out (fun k e => .inl (by cases e;rfl));have hB1:Below bm w W1:=(HB.out.mono (by omega)).grown HG1.out (by omega) (fun k e=>by cases e;omega);refine ⟨HM1.out.keep ?_,?_,?_⟩
      ·
       exact (Below.heap_setCell _ _ _ bm (by simp;omega)).trans (Below.heap_setCell _ _ _ bm (by simp;omega))
      ·
       exact (hK1.setCell (.inr (by simp;omega)) _).setCell (.inr (by simp;omega)) _
      ·
       exact Below.setCell (Below.setCell hB1 (p:=⟨w.heap.size+1+1,0,none⟩) (by show bm≤w.heap.size+1+1;omega) _) (p:=⟨w.heap.size+1+1,1,none⟩) (by show bm≤w.heap.size+1+1;omega) _
end Go.Proofs.Ytmhomdohhihlcaa.P
namespace Go.Proofs.Ytmhomdohhihlcaa.P
open Go.RowKit Go.Proofs.YtmhomdohhihlcaaW.PrintWords Go.Proofs.YtmhomdohhihlcaaW.PrintLast Go.Proofs.YtmhomdohhihlcaaW.PrintMore
section
section
variable {l n:Nat} {P:Program} {ops:Array Oper} {Q:Exit→Act→World→Prop}
theorem qcP {o:Oper} {a:Act} {w:World} {K:Act→World→Prop} (ho:∀ c,o.op ≠ .defer c) (h:o.wp P a w K Q):o.wpIn (Fence.wide.inRound l) n P a w K Q:=by
 unfold Oper.wp at h
 refine ⟨fun f _=>trivial,?_⟩
 rw [Oper.semAt_plain _ _ _ ho]
 generalize (execOp a.eval o).run P w=r at *
 cases r with
 | ok x w' =>
  cases x<;>simp only [Oper.upon,Oper.uponIn] at h ⊢ <;>
   first
    | exact h
    | exact ⟨fun e=>by simp [Fence.wide] at e,CallsIn.inRound l (callsIn_wide.2 h)⟩
    | exact ⟨fun e=>by simp [Fence.wide] at e,fun c cs _=>let ⟨v,w',r,s⟩:=h c cs;⟨v,w',r,stepsIn_wide.2 s⟩⟩
 | halt x w'=>cases x<;>simp only [Oper.upon,Oper.uponIn] at h ⊢ <;> exact h
def qep (ops:Array Oper):Prop:=∀ (i:Nat) (o:Oper),ops[i]? = some o → ∀ c,o.op ≠ .defer c
theorem qg7 {ops:Array Oper} (h:ops.all (fun o=>match o.op with | .defer _=>false|_=>true)=true):qep ops:=by
 intro i o ho c hc
 have hi:=(Array.getElem?_eq_some_iff.1 ho).1
 have:=Array.all_eq_true.1 h i hi
 rw [(Array.getElem?_eq_some_iff.1 ho).2,hc] at this
 cases this
theorem qg9 {i:Nat} {a:Act} {w:World} {K:Act→World→Prop} (hno:¬ LetsOut Q) (hd:qep ops) (h:wpOp P ops Q i K a w):wpOpIn (Fence.wide.inRound l) n P ops Q i K a w:=by
 unfold wpOp at h
 unfold wpOpIn
 split
 ·
  simpa [*] using h
 ·
  rename_i o ho
  simp only [ho] at h
  split
  ·
   rename_i hw
   simp only [hw,if_true] at h
   rcases h with h|⟨_,h⟩
   ·
    exact qcP (hd i o ho) h
   ·
    exact absurd h hno
  ·
   rename_i hw
   simp only [hw] at h
   exact ⟨fun _ _=>trivial,h⟩
theorem qdM {md:Region.Mode} (hno:¬ LetsOut Q) (hd:qep ops):∀ (fuel:Nat) (listed:Array Bool) (a:Act) (w:World),wpAny P md ops Q fuel listed a w→wpAnyIn (Fence.wide.inRound l) n P md ops Q fuel listed a w:=by
 intro fuel
 induction fuel with
 | zero=>exact fun _ _ _ h=>h
 | succ fuel ih =>
  intro listed a w h
  exact ⟨h.1,fun i hi=>qg9 hno hd (wpOp_mono (fun a w=>ih _ a w) (h.2 i hi))⟩
theorem OH (hno:¬ LetsOut Q):∀ (l1:List Oper) (a:Act) (w:World),(∀ o∈l1,∀ c,o.op ≠ .defer c)→wpList P ops Q l1 a w→wpListIn (Fence.wide.inRound l) n P ops Q l1 a w
 | [],_,_,_,h=>h
 | o::rest,a,w,hd,h=>by
  unfold wpList at h
  unfold wpListIn
  split
  ·
   rename_i hw
   simp only [hw,if_true] at h
   rcases h with h|⟨_,h⟩
   ·
    exact Oper.wpIn_mono (fun a w hh=>OH hno rest a w (fun o ho=>hd o (List.mem_cons_of_mem _ ho)) hh) (qcP (hd o List.mem_cons_self) h)
   ·
    exact absurd h hno
  ·
   rename_i hw
   rw [if_neg hw] at h
   exact ⟨fun _ _=>trivial,OH hno rest _ w (fun o ho=>hd o (List.mem_cons_of_mem _ ho)) h⟩
theorem Ox {id:Nat} {a:Act} {w:World} (hm:P.follows .mixedOrders=true) (hno:¬ LetsOut Q) (hd:ops.all (fun o=>match o.op with | .defer _=>false|_=>true)=true)
  (h:wpAny P .any ops Q ops.size (Array.replicate ops.size false) a { w with drawn:=w.drawn+1 }):(Code.region id ops true).wpIn (Fence.wide.inRound l) n P Q a w :=
 wpIn_region_any hm (qdM hno (qg7 hd) _ _ _ _ h)
theorem qc0 {id:Nat} {l1:List Oper} {a:Act} {w:World} (hno:¬ LetsOut Q) (hd:l1.all (fun o=>match o.op with | .defer _=>false|_=>true)=true) (h:wpList P l1.toArray Q l1 a w):(Code.region id l1.toArray false).wpIn (Fence.wide.inRound l) n P Q a w :=
 wpIn_region_lit (OH hno l1 a w (fun o ho c hc=>by have:=List.all_eq_true.1 hd o ho;rw [hc] at this;cases this) h)
end
structure Zi (B:Nat) (W W':World):Prop where
 size:W.heap.size≤W'.heap.size
 same:∀ (b:Nat) (cs:Array Value) (t:Nat),B≤b→t≠25→W.heap[b]? = some (.cells cs t (0,0))→W'.heap[b]? = some (.cells cs t (0,0))
namespace Zi
variable {B:Nat} {W W1 W2:World}
theorem refl (B:Nat) (W:World):Zi B W W:=⟨Nat.le_refl _,fun _ _ _ _ _ h=>h⟩
theorem trans (h:Zi B W W1) (k:Zi B W1 W2):Zi B W W2:=⟨Nat.le_trans h.size k.size,fun b cs t hb ht hk=>k.same b cs t hb ht (h.same b cs t hb ht hk)⟩
theorem of_grown (h:W.grownBy W1 none):Zi B W W1:=⟨h.size,fun b cs t _ _ hk=>(h.block b (Array.getElem?_eq_some_iff.1 hk).1 (by simp)).trans hk⟩
theorem put (l:Nat) (o o':Obj) (hl:W.heap[l]? = some o) (ho:o.isCells=false):Zi B W (W.putObj l o') :=
 ⟨by simp,fun b cs t _ _ hk=>by
  by_cases e:b=l
  ·
   subst e;rw [hl] at hk;cases hk;cases ho
  ·
   exact (World.putObj_heap_other e).trans hk⟩
end Zi
theorem qbn {W W1:World} {B:Nat} {v:Value} {xs:List Int} {ok:Nat→Prop} (h:Kd.R (Kd.int .i64) 3 W B ok v xs) (k:Zi B W W1):Kd.R (Kd.int .i64) 3 W1 B ok v xs :=
 Kd.R_mono (Kd.R_move (Kd.R_bound h) (fun b hb=>by
  obtain ⟨_,h1,h2,q,hq,cs,hc⟩:=hb
  have hq3:q=3:=by simpa [Kd.int,Kd.scalar] using hq
  subst hq3
  rw [hc]
  exact k.same b cs 3 h1 (by decide) hc)) (fun _ hb=>hb.1)
def qaI (n:Nat) (P:Program) (g:Nat) (lb:Array Value) (B:Nat) (xs:List (List Int)) (w:World):Prop :=
 ∀ (l:Nat) (J:List (List Int)→World→Prop) (W:World),Below w.heap.size w W →
  (∀ W1 W2 row,J [] W1→W1.grownBy W2 row→(∀ r,row=some r→W.heap.size≤r)→J [] W2) →
  (∀ pre W1 W2,J pre W1→W1.grownBy W2 none→J pre W2) →
  (∀ pre v x W1,J pre W1→pre++[x] <+: xs→Kd.R (Kd.int .i64) 3 W1 B (fun _=>True) v x→YieldAt Fence.wide (n-1) P l #[v] W1 fun e W'=>e = .returned (.bool true)∧J (pre++[x]) W'∧Zi B W1 W') →
  J [] W→CallsIn Fence.wide n P g (#[.func (.yield l) #[] #[]]++lb) W fun e W'=>(∃ v,e = .returned v)∧J xs W'
def qgc (B Bl:Nat) (I:List (List Int)→World→Prop) (xs:List (List Int)) (W:World):Exit→Act→World→Prop
 | .normal,_,W'=>KeepsFrom Bl W W'∧Zi B W W'∧I xs W'
 | _,_,_=>False
theorem qcQ {n:Nat} {P:Program} {g:Operand} {p:Tmp} {assign body:Code} {Q:Exit→Act→World→Prop} {a:Act} {w:World}
  {gf:Nat} {lb:Array Value} (hg:a.eval g = .func (.func gf) #[] lb) (eg:∀ args w,(callFunc gf args).run P w = .ok (.enter gf args) w)
  {B:Nat} {xs:List (List Int)} {w0:World} (hseq:qaI (n-1) P gf lb B xs w0) (hb0:Below w0.heap.size w0 w)
  (I:List (List Int)→World→Prop) (hI:OwnFrom w.heap.size I) (hI0:∀ W1 W2 row,I [] W1→W1.grownBy W2 row→(∀ r,row=some r→w.heap.size≤r)→I [] W2) (h0:I [] w) (a₁:Value→Act)
  (hassign:∀ (l:Nat) (v:Value) (W:World) (K:Act→World→Prop),K (a₁ v) W →
   assign.wpIn (Fence.wide.inRound l) (n-1-1) P (Exit.then K (fun _ _ _=>False)) { tmps:=(#[p].zip #[v]).foldl (fun t (p,v)=>t.setIfInBounds p v) a.tmps,defers:=[] } W)
  (hbody:∀ (l:Nat) (pre:List (List Int)) (v:Value) (x:List Int) (W:World),I pre W→pre++[x] <+: xs→Kd.R (Kd.int .i64) 3 W B (fun _=>True) v x→body.wpIn (Fence.wide.inRound l) (n-1-1) P (qgc B w.heap.size I (pre++[x]) W) (a₁ v) W)
  (hdone:∀ (D:Nat) (W:World),w.heap.size≤D→I xs W→W.heap[D]? = some (.deferred (some []))→Q .normal { a with defers:={ target:=.collected D,args:=#[] }::a.defers } W) :
  (Code.rangeFunc g #[p] assign body).wpIn Fence.wide n P Q a w:=by
 refine wpIn_rangeFunc ?_
 intro fn hfn
 rw [show Fence.wide.round=none from rfl]
 obtain ⟨rec,hrec⟩:∃ rec:LoopState→Option Code→Loop,rec=fun st pe => { state:=st,pending:=pe,fn,tmps:=a.tmps,params:=#[p],assign,body,defers:=w.heap.size }:=⟨_,rfl⟩
 obtain ⟨W1,hW1⟩:∃ W1,(w.alloc (.deferred (some []))).alloc (.loop (rec .ready none))=W1:=⟨_,rfl⟩
 have hL1:W1.heap[w.heap.size+1]? = some (.loop (rec .ready none)):=by
  rw [← hW1];have:=World.alloc_heap_new (w.alloc (.deferred (some []))) (.loop (rec .ready none));rwa [World.size_alloc] at this
 have hK1:W1.heap[w.heap.size]? = some (.deferred (some [])):=by
  rw [← hW1];exact (Below.heap_alloc _ _ _ (by simp)).trans (World.alloc_heap_new w _)
 have hs1:W1.heap.size=w.heap.size+2:=by rw [← hW1];simp
 have hI1:I [] W1:=by rw [← hW1];exact hI.alloc _ (hI.alloc _ h0)
 have hb1:Below w0.heap.size w0 W1:=by
  rw [← hW1];exact hb0.trans ((((Below.refl _ w).alloc (Nat.le_refl _) _).alloc (by simp) _).mono hb0.size)
 refine ⟨w.heap.size+1,[{ target:=.collected w.heap.size,args:=#[] }],W1,{ target:=.fn (.func gf) lb,args:=#[.func (.yield (w.heap.size+1)) #[] #[]] },W1,gf,
  #[.func (.yield (w.heap.size+1)) #[] #[]]++lb,W1,?_,?_,?_,?_,fun e=>by simp [Fence.wide] at e,?_⟩
 ·
  rw [← hW1,hrec];exact run_enterLoop_outer _ _ _ _ _
 ·
  simp only [resolve,hg]
  simp [go_sem]
 ·
  intro f' hf';trivial
 ·
  simp [invoke,go_sem,eg]
 ·
  refine (hseq (w.heap.size+1)
   (fun pre W=>I pre W∧W.heap[w.heap.size+1]? = some (.loop (rec .ready none))∧W.heap[w.heap.size]? = some (.deferred (some [])))
   W1 hb1
   (fun A C row hs hg' hr => ?_) (fun pre A C hs hg' => ?_) ?_ ⟨hI1,hL1,hK1⟩).mono ?_
  ·
   have k1:∀ k o,k<w.heap.size+2→A.heap[k]? = some o→C.heap[k]? = some o:=fun k o hk ho =>
    (hg'.block k (Array.getElem?_eq_some_iff.1 ho).1 (fun e=>by have:=hr k e.symm;omega)).trans ho
   exact ⟨hI0 A C row hs.1 hg' (fun r e=>by have:=hr r e;omega),k1 _ _ (by omega) hs.2.1,k1 _ _ (by omega) hs.2.2⟩
  ·
   have k1:∀ k o,A.heap[k]? = some o→C.heap[k]? = some o:=fun k o ho=>(hg'.block k (Array.getElem?_eq_some_iff.1 ho).1 (by simp)).trans ho
   exact ⟨hI pre A C none hs.1 hg' (fun r e=>by cases e),k1 _ _ hs.2.1,k1 _ _ hs.2.2⟩
  ·
   rintro pre v x W ⟨hi,hl,hk⟩ hpre hrow
   have hlt:w.heap.size+1<W.heap.size:=(Array.getElem?_eq_some_iff.1 hl).1
   have hy:=run_yield (P:=P) (args:=#[v]) hl (by rw [hrec];rfl)
   rw [hrec] at hy
   refine ⟨fn,_,assign,body,hy,roundIn_of_wpIn hfn (hassign _ v W _ ⟨_,run_beginRound hl (by rw [hrec]),?_⟩)⟩
   have hl2:(W.putObj (w.heap.size+1) (.loop { rec .ready none with state:=.busy })).heap[w.heap.size+1]? = some (.loop { rec .ready none with state:=.busy }):=World.putObj_heap_same hlt
   have hk2:(W.putObj (w.heap.size+1) (.loop { rec .ready none with state:=.busy })).heap[w.heap.size]? = some (.deferred (some [])):=(World.putObj_heap_other (by omega)).trans hk
   have hw2:Zi B W (W.putObj (w.heap.size+1) (.loop { rec .ready none with state:=.busy })):=.put _ _ _ hl rfl
   refine wpIn_mono (hbody _ pre v x _ (hI.putObj _ hi (by omega) hl rfl) hpre (qbn hrow hw2)) ?_
   rintro e a3 W3 hp
   cases e with
   | normal =>
    obtain ⟨hk3,hkp3,hi3⟩:=hp;have hl3:=hk3.same _ _ (by omega) hl2 rfl;have hr:=run_endRound (P:=P) none hl3;rw [hrec] at hr;refine ⟨_,_,hr,?_⟩;rw [hrec] at hl3;refine ⟨rfl,⟨hI.putObj _ hi3 (by omega) hl3 rfl,?_,(World.putObj_heap_other (by omega)).trans (hk3.same _ _ (Nat.le_refl _) hk2 rfl)⟩,(hw2.trans hkp3).trans (.put _ _ _ hl3 rfl)⟩;rw [hrec]
    exact World.putObj_heap_same (Array.getElem?_eq_some_iff.1 hl3).1
   | ret=>exact hp.elim
   | exit id=>exact hp.elim
   | goto t=>exact hp.elim
   | panic ch=>exact hp.elim
   | outgrown=>exact hp.elim
  ·
   rintro e W2 ⟨⟨v,rfl⟩,hi,hl,hk⟩
   exact ⟨none,_,by have:=run_endLoop (P:=P) hl (by rw [hrec];simp);rw [hrec] at this;exact this,hdone _ _ (Nat.le_refl _) (hI.putObj _ hi (by omega) hl rfl) ((World.putObj_heap_other (by omega)).trans hk)⟩
end
end Go.Proofs.Ytmhomdohhihlcaa.P
namespace Go.Proofs.Ytmhomdohhihlcaa.P
open Go.RowKit Go.Shelf Go.Proofs.YtmhomdohhihlcaaW.PrintWords Go.Proofs.YtmhomdohhihlcaaW.PrintLast Go.Proofs.YtmhomdohhihlcaaW.PrintMore
attribute [local go_sem] Oper.semAt_some
attribute [-go_sem] Builtin.append_
def Ul:Nat→Int→List Int→List (List Int)
 | 0,left,b=>[b++[left]]
 | m+1,left,b=>(List.range (left.toNat+1)).flatMap fun (n:Nat)=>Ul m (left-(n:Int)) (b++[(n:Int)])
theorem qa1 {W:World} {B c:Nat} {A:Option Addr} {mix:List Int} (h:Kd.R (Kd.int .i64) 3 W B (fun _=>True) (.slice A mix.length c) mix) (hB:B≤W.heap.size) (hl:mix.length≤10) (x:Int) :
  ∃ v' w',(Builtin.append_ #[37,37] 37 #[.slice A mix.length mix.length,.slice (some ⟨W.heap.size,0,none⟩) 1 1]).run Try.prog (W.alloc (.cells #[.int .i64 x] 3)) = .ok v' w' ∧
   Kd.R (Kd.int .i64) 3 w' B (fun _=>True) v' (mix++[x])∧W.grownBy w' none:=by
 have hC:=(Kd.R_reads' h).2.2
 have hinf:(Try.prog.info? 3).map (fun i=>(i.zero,i.size,i.bytes))=some (some (.int .i64 0),1,8):=by kernel_rfl
 obtain ⟨i0,hi,hz0,hz1,hz2⟩:=info_parts hinf
 have hb1:Below W.heap.size W (W.alloc (.cells #[.int .i64 x] 3)):=(Below.refl _ W).alloc (Nat.le_refl _) _
 have hnews:∀ j u,[Value.int .i64 x][j]? = some u→(W.alloc (.cells #[.int .i64 x] 3)).cell? (Addr.add ⟨W.heap.size,0,none⟩ j)=some u:=by
  intro j u hj
  have hj0:j=0:=by
   have:=(List.getElem?_eq_some_iff.1 hj).1
   simpa using this
  subst hj0
  rw [show Addr.add ⟨W.heap.size,0,none⟩ 0=(⟨W.heap.size,0,none⟩:Addr) by simp [Addr.add]]
  rw [← hj]
  exact (Q8 (World.alloc_heap_new W _) 0).trans rfl
 have fin:∀ (v':Value) (w':World) (b0:Nat),B≤b0→w'.ownsRow b0 3 1 v' (mix.length+1) (mix.map (Value.int .i64)++[.int .i64 x])→(W.alloc (.cells #[.int .i64 x] 3)).grownBy w' none→Kd.R (Kd.int .i64) 3 w' B (fun _=>True) v' (mix++[x])∧W.grownBy w' none:=by
  intro v' w' b0 hb0 ho hg
  refine ⟨Kd.R_of_own (Xp ?_ hb0) (fun _ _=>trivial),(World.grownBy_alloc W _ none).trans hg⟩
  have e1:(mix++[x]).length=mix.length+1:=by simp
  have e2:encs (Value.int .i64) (mix++[x])=mix.map (Value.int .i64)++[.int .i64 x]:=by simp [encs]
  rw [e1,e2]
  exact ho
 cases A with
 | none =>
  have hm:mix=[]:=by
   by_cases hz:0<mix.length
   ·
    obtain ⟨ad,e,_⟩:=XA (W:=W) hC (Below.refl _ _) (by simpa using hz);cases e
   ·
    exact List.eq_nil_of_length_eq_zero (by omega)
  subst hm
  obtain ⟨v',w',hrun,r1,r2,_⟩:=run_append_own (P:=Try.prog) (W.alloc (.cells #[.int .i64 x] 3)) (W.alloc (.cells #[.int .i64 x] 3)).heap.size 37 37 3 i0 (.int .i64 0) 1 8 Try.underlying37 hi hz0 hz1 hz2 rfl (by decide) (.slice none 0 0) 0 [] (World.ownsRow_nil _ _ 3 1) ⟨W.heap.size,0,none⟩ 1 1 [.int .i64 x] rfl hnews (by simp [Value.oneCell']) (by decide) (by decide) (Nat.le_refl _)
  have:=fin v' w' (W.alloc (.cells #[.int .i64 x] 3)).heap.size (by simp;omega) (by simpa using r1) (by simpa [Value.ownBlock] using r2)
  exact ⟨v',w',hrun,this⟩
 | some ad =>
  obtain ⟨v',w',hrun,r1,r2⟩:=run_append_arg_grows (P:=Try.prog) (W.alloc (.cells #[.int .i64 x] 3)) 37 37 3 i0 (.int .i64 0) 1 8 Try.underlying37 hi hz0 hz1 hz2 rfl (by decide) ad mix.length mix.length (mix.map (Value.int .i64)) (by simp) (fun j u hj=>by
   obtain ⟨ad',e,hc⟩:=XA (w:=W) (W:=W.alloc (.cells #[.int .i64 x] 3)) hC hb1 (by have:=(List.getElem?_eq_some_iff.1 hj).1;omega)
   cases e
   exact hc j u hj) ⟨W.heap.size,0,none⟩ 1 1 [.int .i64 x] rfl hnews (by omega) (by simp only [maxLen];omega) (by omega)
  exact ⟨v',w',hrun,fin v' w' (W.alloc (.cells #[.int .i64 x] 3)).heap.size (by simp;omega) r1 r2⟩
theorem qfm {α:Type} (f:Nat→List α) (k N:Nat) (h:k<N):(List.range k).flatMap f++f k <+: (List.range N).flatMap f:=by
 obtain ⟨d,rfl⟩:∃ d,N=(k+1)+d:=⟨N-(k+1),by omega⟩
 rw [List.range_add,List.flatMap_append,List.range_succ,List.flatMap_append,List.flatMap_singleton]
 exact List.prefix_append _ _
theorem UU {W W1:World} {r:Option Nat} (h:W.drew.grownBy W1 r):W.grownBy W1 r:=⟨h.1,h.2,h.3,h.size,fun k hk hr=>h.block k hk hr⟩
theorem qgb {n m:Nat} {P:Program} {l:Nat} {f:FuncId} {tmps:Array Value} {assign body:Code} {w:World} {R:Ending→World→Prop} (h:RoundIn Fence.wide n P l f tmps assign body w R):RoundIn Fence.wide m P l f tmps assign body w R :=
 ⟨h.1,fun c cs _=>h.2 c cs (room_wide _)⟩
theorem qbd {n m:Nat} {P:Program} {l:Nat} {args:Array Value} {w:World} {R:Ending→World→Prop} (h:YieldAt Fence.wide n P l args w R):YieldAt Fence.wide m P l args w R:=by
 obtain ⟨fn,tmps,assign,body,hy,hR⟩:=h
 exact ⟨fn,tmps,assign,body,hy,qgb hR⟩
structure KJ (l:Nat) (R:Int) (rb yb fb B:Nat) (W:World):Prop where
 r:W.heap[rb]? = some (.cells #[.int .i64 R] 3 (0,0))
 y:W.heap[yb]? = some (.cells #[.func (.yield l) #[] #[]] 147 (0,0))
 f:W.heap[fb]? = some (.cells #[.func (.func 96) #[] #[.pointer (some ⟨rb,0,none⟩),.pointer (some ⟨yb,0,none⟩),.pointer (some ⟨fb,0,none⟩)]] 87 (0,0))
 br:B≤rb
 by_:B≤yb
 bf:B≤fb
theorem KJ.keeps {l rb yb fb B:Nat} {R:Int} {W W1:World} (h:KJ l R rb yb fb B W) (k:Zi B W W1):KJ l R rb yb fb B W1 :=
 ⟨k.same _ _ _ h.br (by decide) h.r,k.same _ _ _ h.by_ (by decide) h.y,k.same _ _ _ h.bf (by decide) h.f,h.br,h.by_,h.bf⟩
theorem qa5 {n m:Nat} {P:Program} {f:FuncId} {args:Array Value} {w:World} {R:Ending→World→Prop} (h:CallsIn Fence.wide n P f args w R):CallsIn Fence.wide m P f args w R:=callsIn_wide.2 (callsIn_wide.1 h)
set_option maxHeartbeats 4000000 in
set_option maxRecDepth 100000 in
theorem qlR (n l:Nat) (R:Nat) (rb yb fb B:Nat) (xs:List (List Int)) (J:List (List Int)→World→Prop)
  (hJ:∀ pre W1 W2,J pre W1→W1.grownBy W2 none→J pre W2)
  (hY:∀ pre v x W1,J pre W1→pre++[x] <+: xs→Kd.R (Kd.int .i64) 3 W1 B (fun _=>True) v x→YieldAt Fence.wide n Try.prog l #[v] W1 fun e W'=>e = .returned (.bool true)∧J (pre++[x]) W'∧Zi B W1 W') :
  ∀ (m:Nat) (left:Int) (mix:List Int) (v:Value) (pre:List (List Int)) (W:World),0≤left→left≤100→mix.length+m+1=R→R≤3→B≤W.heap.size→Kd.R (Kd.int .i64) 3 W B (fun _=>True) v mix→KJ l R rb yb fb B W →
   J pre W→pre++Ul m left mix <+: xs →
   CallsIn Fence.wide n Try.prog 96 #[v,.int .i64 left,.pointer (some ⟨rb,0,none⟩),.pointer (some ⟨yb,0,none⟩),.pointer (some ⟨fb,0,none⟩)] W fun e W'=>e = .returned (.bool true)∧J (pre++Ul m left mix) W'∧Zi B W W':=by
 have hmix:Try.prog.follows .mixedOrders=true:=by kernel_rfl
 intro m
 induction m with
 | zero =>
  intro left mix v pre W qpH hleft hlen hR3 hBW hrow hbox hj hpre
  obtain ⟨A,c,rfl,hc,_⟩:=Kd.R_reads hrow
  have hbr:W.cell? ⟨rb,0,none⟩=some (.int .i64 R):=(Q8 hbox.r 0).trans rfl
  have hby:W.cell? ⟨yb,0,none⟩=some (.func (.yield l) #[] #[]):=(Q8 hbox.y 0).trans rfl
  have hlr:decide ((mix.length:Int)=(R:Int)-1)=true:=decide_eq_true (by omega)
  have hrow2:Kd.R (Kd.int .i64) 3 W.drew B (fun _=>True) (.slice A mix.length c) mix:=hrow
  obtain ⟨v1,w1,hrun',hr1,hg1⟩:=qa1 hrow2 hBW (by omega) left
  have hrun:(Builtin.append_ #[37,37] 37 #[.slice A mix.length mix.length,.slice (some ⟨W.heap.size,0,none⟩) 1 1]).run Try.prog (W.alloc (.cells #[.int .i64 left] 3)).drew = .ok v1 w1:=hrun'
  clear hrun'
  have hg0:W.grownBy w1 none:=UU hg1
  have qfp:KJ l R rb yb fb B w1:=hbox.keeps (Zi.of_grown hg0)
  have qCO:w1.cell? ⟨yb,0,none⟩=some (.func (.yield l) #[] #[]):=(Q8 qfp.y 0).trans rfl
  have hylt:yb<W.heap.size:=QL hbox.y
  have hyne:(yb=W.heap.size)=False:=eq_false (by omega)
  have qCz:(W.heap.size=yb)=False:=eq_false (by omega)
  have qCP:(W.alloc (.cells #[.int .i64 left] 3)).cell? ⟨yb,0,none⟩=some (.func (.yield l) #[] #[]):=(World.cell?_alloc_some _ _ _ (by rw [hby];rfl)).trans hby
  have hcut:=UG (P:=Try.prog) 37 3 Try.underlying37 rfl A mix.length c hc
  obtain ⟨fn,tmps,assign,body,hy,hRd⟩:=qbd (m:=n-1) (hY pre v1 (mix++[left]) w1 (hJ _ _ _ hj hg0) hpre hr1)
  refine callsIn_of_wp Try.func96 rfl trivial ?_ rfl
  simp only [Try.ntmps96,List.size_toArray,List.length_cons,List.length_nil,Nat.reduceAdd,Nat.reduceSub,Array.replicate_succ,Array.replicate_zero,List.push_toArray,List.append_toArray,List.nil_append,List.cons_append]
  gi_wp2
  gi_region_with_o (refine ⟨fun e=>by simp [Fence.wide] at e,hRd.mono ?_⟩;rintro e W' ⟨rfl,hJ',hk'⟩)
  all_goals
   gi_wp2
   go_ret
   exact ⟨rfl,hJ',(Zi.of_grown hg0).trans hk'⟩
 | succ m ih =>
  intro left mix v pre W qpH hleft hlen hR3 hBW hrow hbox hj hpre
  obtain ⟨A,c,rfl,hc,_⟩:=Kd.R_reads hrow
  have hbr:W.cell? ⟨rb,0,none⟩=some (.int .i64 R):=(Q8 hbox.r 0).trans rfl
  have hlr:decide ((mix.length:Int)=(R:Int)-1)=false:=decide_eq_false (by omega)
  have qC4:((mix.length:Int)==(R:Int)-1)=false:=by simpa using hlr
  have hcut:=UG (P:=Try.prog) 37 3 Try.underlying37 rfl A mix.length c hc
  refine callsIn_of_wp Try.func96 rfl trivial ?_ rfl
  simp only [Try.ntmps96,List.size_toArray,List.length_cons,List.length_nil,Nat.reduceAdd,Nat.reduceSub,Array.replicate_succ,Array.replicate_zero,List.push_toArray,List.append_toArray,List.nil_append,List.cons_append]
  have hN:left.toNat+m+1≤left.toNat+m+1:=Nat.le_refl _
  gi_wp2
  gi_loopg [27] (left.toNat+1) (fun d v27 wr => ∃ (k:Nat),v27 = .int .i64 (k:Int)∧Q0 (k+d=left.toNat+1)∧Q0 (J (pre++(List.range k).flatMap fun (n:Nat)=>Ul m (left-(n:Int)) (mix++[(n:Int)])) wr)∧Q0 (Zi B W wr))
  case atStart=>exact ⟨0,rfl,⟨by omega⟩,⟨by simpa using hj⟩,⟨Zi.refl _ _⟩⟩
  case round =>
   obtain ⟨k,rfl,HD,HJ,HK⟩:=hrel
   by_cases hk:(k:Int)<left+1
   ·
    obtain ⟨d,rfl⟩:∃ d,gk=d+1:=⟨gk-1,by have:=HD.out;omega⟩
    have hBr:B≤wr.heap.size:=by have:=HK.out.size;omega
    have hboxr:KJ l R rb yb fb B wr:=hbox.keeps HK.out;have hrowr:Kd.R (Kd.int .i64) 3 wr.drew B (fun _=>True) (.slice A mix.length c) mix:=(show Kd.R (Kd.int .i64) 3 wr B (fun _=>True) (.slice A mix.length c) mix from qbn hrow HK.out)
    have hwr:IntKind.i64.wrap (left-(k:Int))=left-(k:Int):=by rw [Yj];unfold wrap64;omega
    obtain ⟨v1,w1,hrun',hr1,hg1⟩:=qa1 hrowr hBr (by omega) (k:Int);have hrun:(Builtin.append_ #[37,37] 37 #[.slice A mix.length mix.length,.slice (some ⟨wr.heap.size,0,none⟩) 1 1]).run Try.prog (wr.alloc (.cells #[.int .i64 (k:Int)] 3)).drew = .ok v1 w1:=hrun';clear hrun';have hg0:wr.grownBy w1 none:=UU hg1;have qfp:KJ l R rb yb fb B w1:=hboxr.keeps (Zi.of_grown hg0);have hbf:wr.cell? ⟨fb,0,none⟩=some (.func (.func 96) #[] #[.pointer (some ⟨rb,0,none⟩),.pointer (some ⟨yb,0,none⟩),.pointer (some ⟨fb,0,none⟩)]):=(Q8 hboxr.f 0).trans rfl;have qCM:w1.cell? ⟨fb,0,none⟩=some (.func (.func 96) #[] #[.pointer (some ⟨rb,0,none⟩),.pointer (some ⟨yb,0,none⟩),.pointer (some ⟨fb,0,none⟩)]):=(Q8 qfp.f 0).trans rfl;have qCN:(wr.alloc (.cells #[.int .i64 (k:Int)] 3)).cell? ⟨fb,0,none⟩=some (.func (.func 96) #[] #[.pointer (some ⟨rb,0,none⟩),.pointer (some ⟨yb,0,none⟩),.pointer (some ⟨fb,0,none⟩)]):=(World.cell?_alloc_some _ _ _ (by rw [hbf];rfl)).trans hbf;have hJ1:=hJ _ _ _ HJ.out hg0;have hB1:B≤w1.heap.size:=Nat.le_trans hBr hg0.size
    have qkO:(pre++(List.range k).flatMap fun (n:Nat)=>Ul m (left-(n:Int)) (mix++[(n:Int)]))++Ul m (left-(k:Int)) (mix++[(k:Int)]) <+: xs:=by
     refine List.IsPrefix.trans ?_ hpre;rw [List.append_assoc]
     exact (List.prefix_append_right_inj pre).2 (qfm (fun (n:Nat)=>Ul m (left-(n:Int)) (mix++[(n:Int)])) k (left.toNat+1) (by omega))
    have hcall:=qa5 (m:=n-1) (ih (left-(k:Int)) (mix++[(k:Int)]) v1 _ w1 (by omega) (by omega) (by simp;omega) hR3 hB1 hr1 qfp hJ1 qkO);have HG:=Q0.mk hg0;have HP:=Q0.mk qkO;clear hJ1 qkO hg0 hg1 hr1 qfp hboxr hrowr hB1 hBr
    gi_wp2
    gi_region_with_o (refine ⟨trivial,fun e=>by simp [Fence.wide] at e,hcall.mono ?_⟩;rintro e W' ⟨rfl,hJ',hk'⟩)
    all_goals
     gi_wp2
     gi_roundg d
     case measure=>omega
     case rel=>exact ⟨k+1,rfl,⟨by have:=HD.out;omega⟩,⟨by rw [List.range_succ,List.flatMap_append,List.flatMap_singleton,← List.append_assoc];exact hJ'⟩,⟨(HK.out.trans (Zi.of_grown HG.out)).trans hk'⟩⟩
   ·
    gi_wp2
    go_ret
    have hkk:k=left.toNat+1:=by have:=HD.out;omega
    subst hkk
    exact ⟨rfl,HJ.out,HK.out⟩
end Go.Proofs.Ytmhomdohhihlcaa.P
namespace Go.Proofs.Ytmhomdohhihlcaa.P
open Go.RowKit Go.Proofs.YtmhomdohhihlcaaW.PrintWords Go.Proofs.YtmhomdohhihlcaaW.PrintLast Go.Proofs.YtmhomdohhihlcaaW.PrintMore
section
structure qj3 (p:Prop):Prop where
 out:p
theorem qp5 (op:BinOp) (k:IntKind) (x y:Int):(Lit.int k (Go.bits op k x y)).wf=true:=by
 exact wf_bits op k x y
structure BSt where
 ch:List Int
 sp:Int
 lo:Int
def Qn.upd (cells:List YQ) (so:List Int) (x:Int) (st:BSt):BSt :=
 if st.sp<(QP.s cells x).1∨((QP.s cells x).1=st.sp∧(QP.s cells x).2<st.lo) then ⟨so,(QP.s cells x).1,(QP.s cells x).2⟩ else st
def Qn.lp (cells:List YQ) (sets:List Int) (many:Int):Nat→List Int→Int→BSt→BSt
  | 0,_,_,st=>st
  | d+1,so,x,st=>Qn.lp cells sets many d so x
      (if (((so.length+1:Nat):Int))=many then Qn.upd cells (so++[((sets.length-(d+1):Nat):Int)]) (Go.bits .or .i64 x (rd sets ((sets.length-(d+1):Nat):Int))) st
       else Qn.lp cells sets many d (so++[((sets.length-(d+1):Nat):Int)]) (Go.bits .or .i64 x (rd sets ((sets.length-(d+1):Nat):Int))) st)
def Qn.cz (cells:List YQ) (sets:List Int) (many:Int) (d:Nat) (so:List Int) (x:Int) (st:BSt):BSt :=
 if (so.length:Int)=many then Qn.upd cells so x st else Qn.lp cells sets many d so x st
def BxS (sb lb cb bm:Nat) (k:Nat):Prop:=k=sb∨k=lb∨k=cb∨k=bm
structure BxI (N0 seb sb lb cb tb fb bm:Nat) (A:Option Addr) (c:Nat) (cells:List YQ) (At:Option Addr) (ct:Nat) (sets:List Int) (W:World) (st:BSt):Prop where
 sea:W.heap[seb]? = some (.cells #[.slice A cells.length c,.map (some bm)] 142 (0,0))
 spb:W.heap[sb]? = some (.cells #[.int .i64 st.sp] 3 (0,0))
 lob:W.heap[lb]? = some (.cells #[.int .i64 st.lo] 3 (0,0))
 chb:∃ v,W.heap[cb]? = some (.cells #[v] 37 (0,0))∧Kd.R (Kd.int .i64) 3 W N0 (fun k => ¬ BxS sb lb cb bm k) v st.ch
 tbx:W.heap[tb]? = some (.cells #[.slice At sets.length ct] 137 (0,0))
 fbx:W.heap[fb]? = some (.cells #[.func (.func 90) #[] #[.pointer (some ⟨seb,0,none⟩),.pointer (some ⟨sb,0,none⟩),.pointer (some ⟨lb,0,none⟩),.pointer (some ⟨cb,0,none⟩),.pointer (some ⟨tb,0,none⟩),.pointer (some ⟨fb,0,none⟩)]] 143 (0,0))
 row:Kd.R (Kd.int .i64) 139 W N0 (fun k => ¬ BxS sb lb cb bm k) (.slice At sets.length ct) sets
 map:MapI W bm cells
 cel:Kd.C W7 W A cells.length cells
 hc:cells.length≤c
 n1:seb≠sb∧seb≠lb∧seb≠cb∧seb≠bm
 n2:tb≠sb∧tb≠lb∧tb≠cb∧tb≠bm
 n3:fb≠sb∧fb≠lb∧fb≠cb∧fb≠bm
 n4:sb≠lb∧sb≠cb∧sb≠bm∧lb≠cb∧lb≠bm∧cb≠bm
 n5:N0≤sb∧N0≤lb∧N0≤cb∧N0≤bm
 cl:∀ W',Below N0 W W'→Kd.C W7 W' A cells.length cells
section
variable {N0 seb sb lb cb tb fb bm:Nat} {A:Option Addr} {c:Nat} {cells:List YQ} {At:Option Addr} {ct:Nat} {sets:List Int} {W W1:World} {st:BSt}
theorem BxI.step (h:BxI N0 seb sb lb cb tb fb bm A c cells At ct sets W st) (hk:Kept W W1 (fun k=>k=bm)) (hm:MapI W1 bm cells) (hb:Below N0 W W1):BxI N0 seb sb lb cb tb fb bm A c cells At ct sets W1 st:=by
 obtain ⟨v,h1,h2⟩:=h.chb
 exact ⟨GT h.sea hk h.n1.2.2.2,GT h.spb hk h.n4.2.2.1,GT h.lob hk h.n4.2.2.2.2.1,⟨v,GT h1 hk h.n4.2.2.2.2.2,Kd.R_kept h2 hk (fun k hk1 e=>hk1 (.inr (.inr (.inr e))))⟩,GT h.tbx hk h.n2.2.2.2,GT h.fbx hk h.n3.2.2.2,
  Kd.R_kept h.row hk (fun k hk1 e=>hk1 (.inr (.inr (.inr e)))),hm,h.cl _ hb,h.hc,h.n1,h.n2,h.n3,h.n4,h.n5,fun W' hb'=>h.cl _ (hb.trans hb')⟩
theorem BxI.below (h:BxI N0 seb sb lb cb tb fb bm A c cells At ct sets W st) (hb:Below W.heap.size W W1) (hN:N0≤W.heap.size):BxI N0 seb sb lb cb tb fb bm A c cells At ct sets W1 st :=
 h.step (Kept.of_below hb _) (h.map.keep (hb.block bm h.map.lt)) (hb.mono hN)
theorem BxI.put (h:BxI N0 seb sb lb cb tb fb bm A c cells At ct sets W st) {v:Value} {so:List Int} {s1 s2:Int} (hv:Kd.R (Kd.int .i64) 3 W N0 (fun k => ¬ BxS sb lb cb bm k) v so) :
  BxI N0 seb sb lb cb tb fb bm A c cells At ct sets (((W.setCell ⟨cb,0,none⟩ v).setCell ⟨sb,0,none⟩ (.int .i64 s1)).setCell ⟨lb,0,none⟩ (.int .i64 s2)) ⟨so,s1,s2⟩ ∧
   Kept W (((W.setCell ⟨cb,0,none⟩ v).setCell ⟨sb,0,none⟩ (.int .i64 s1)).setCell ⟨lb,0,none⟩ (.int .i64 s2)) (BxS sb lb cb bm) ∧
   Below N0 W (((W.setCell ⟨cb,0,none⟩ v).setCell ⟨sb,0,none⟩ (.int .i64 s1)).setCell ⟨lb,0,none⟩ (.int .i64 s2)):=by
 obtain ⟨v0,h1,h2⟩:=h.chb
 obtain ⟨a1,a2,a3,a4,a5,a6⟩:=h.n4
 have hK:Kept W (((W.setCell ⟨cb,0,none⟩ v).setCell ⟨sb,0,none⟩ (.int .i64 s1)).setCell ⟨lb,0,none⟩ (.int .i64 s2)) (BxS sb lb cb bm) :=
  (((Kept.refl W _).setCell (p:=⟨cb,0,none⟩) (.inl (.inr (.inr (.inl rfl)))) _).setCell (p:=⟨sb,0,none⟩) (.inl (.inl rfl)) _).setCell (p:=⟨lb,0,none⟩) (.inl (.inr (.inl rfl))) _
 have hB:Below N0 W (((W.setCell ⟨cb,0,none⟩ v).setCell ⟨sb,0,none⟩ (.int .i64 s1)).setCell ⟨lb,0,none⟩ (.int .i64 s2)) :=
  (((Below.refl N0 W).setCell (p:=⟨cb,0,none⟩) h.n5.2.2.1 _).setCell (p:=⟨sb,0,none⟩) h.n5.1 _).setCell (p:=⟨lb,0,none⟩) h.n5.2.1 _
 have nS:∀ {k:Nat},k≠sb→k≠lb→k≠cb→k≠bm → ¬ BxS sb lb cb bm k:=fun h1 h2 h3 h4 e=>by
  rcases e with e|e|e|e
  ·
   exact h1 e
  ·
   exact h2 e
  ·
   exact h3 e
  ·
   exact h4 e
 refine ⟨⟨GT h.sea hK (nS h.n1.1 h.n1.2.1 h.n1.2.2.1 h.n1.2.2.2),?_,?_,⟨v,?_,Kd.R_kept hv hK (fun k hk=>hk)⟩,GT h.tbx hK (nS h.n2.1 h.n2.2.1 h.n2.2.2.1 h.n2.2.2.2),GT h.fbx hK (nS h.n3.1 h.n3.2.1 h.n3.2.2.1 h.n3.2.2.2),Kd.R_kept h.row hK (fun k hk=>hk),
  h.map.keep ?_,h.cl _ hB,h.hc,h.n1,h.n2,h.n3,h.n4,h.n5,fun W' hb'=>h.cl _ (hB.trans hb')⟩,hK,hB⟩
 ·
  exact Qk (Qu (Qk h.spb (p:=⟨cb,0,none⟩) a2 _) 0 _ rfl) (p:=⟨lb,0,none⟩) a1 _
 ·
  exact Qu (Qk (Qk h.lob (p:=⟨cb,0,none⟩) a4 _) (p:=⟨sb,0,none⟩) (Ne.symm a1) _) 0 _ rfl
 ·
  exact Qk (Qk (Qu h1 0 _ rfl) (p:=⟨sb,0,none⟩) (Ne.symm a2) _) (p:=⟨lb,0,none⟩) (Ne.symm a4) _
 ·
  exact ((Below.heap_setCell _ _ _ bm (Ne.symm a5)).trans (Below.heap_setCell _ _ _ bm (Ne.symm a3))).trans (Below.heap_setCell _ _ _ bm (Ne.symm a6))
set_option maxHeartbeats 4000000 in
set_option maxRecDepth 100000 in
theorem Kq.leaf (v:Value) (so:List Int) (x:Int) (hI:BxI N0 seb sb lb cb tb fb bm A c cells At ct sets W st) (hN:N0≤W.heap.size) (hv:Kd.R (Kd.int .i64) 3 W N0 (fun k => ¬ BxS sb lb cb bm k) v so) (hx:(Lit.int .i64 x).wf=true) :
  Calls Try.prog 90 #[v,.agg #[.int .i64 x],.int .i64 (so.length:Int),.pointer (some ⟨seb,0,none⟩),.pointer (some ⟨sb,0,none⟩),.pointer (some ⟨lb,0,none⟩),.pointer (some ⟨cb,0,none⟩),.pointer (some ⟨tb,0,none⟩),.pointer (some ⟨fb,0,none⟩)] W
   fun e w'=>(∃ u,e = .returned u)∧BxI N0 seb sb lb cb tb fb bm A c cells At ct sets w' (Qn.upd cells so x st)∧Kept W w' (BxS sb lb cb bm)∧Below N0 W w':=by
 obtain ⟨Av,cv,rfl,hcv,hCv⟩:=Kd.R_reads hv
 have qoH:=Try.underlying142
 have qoG:=Try.underlying139
 have qkS:=Try.underlying136
 have hbl:=Q3 (Below.refl W.heap.size W) (.cells #[.int .i64 x] 139)
 have hIa:=hI.below hbl hN
 have hs0:(W.alloc (.cells #[.int .i64 x] 139)).cell? ⟨seb,0,none⟩=some (.slice A cells.length c):=(Q8 hIa.sea 0).trans rfl
 have hs1:(W.alloc (.cells #[.int .i64 x] 139)).cell? ⟨seb,1,none⟩=some (.map (some bm)):=(Q8 hIa.sea 1).trans rfl
 have hmx:so.length≤9223372036854775807:=hCv.2.1
 have HI:=Q0.mk hI
 have HIa:=Q0.mk hIa
 have HV:=Q0.mk hv
 have HBL:=Q0.mk hbl
 obtain ⟨s1,hs1e⟩:∃ s1,(QP.s cells x).1=s1:=⟨_,rfl⟩
 obtain ⟨s2,hs2e⟩:∃ s2,(QP.s cells x).2=s2:=⟨_,rfl⟩
 obtain ⟨st2,qg2⟩:∃ st2,Qn.upd cells so x st=st2:=⟨_,rfl⟩
 rw [qg2]
 have hupd:(if st.sp<s1∨(s1=st.sp∧s2<st.lo) then ⟨so,s1,s2⟩ else st)=st2:=by rw [← qg2,← hs1e,← hs2e];rfl
 have HS1:=Q0.mk hs1e
 have HS2:=Q0.mk hs2e
 have HU:=Q0.mk hupd
 clear hI hIa hv hbl hCv hs1e hs2e hupd qg2
 go_enter Try.func90,Try.ntmps90
 go_wp2_with (go_at_call 91;refine qj3.out ?_)
 refine qj3.mk ?_
 refine (qaT.calls A cells.length c bm cells x _ HIa.out.cel HIa.out.hc hx HIa.out.map).mono ?_
 rintro e w2 ⟨rfl,hm2,hk2,hb2⟩
 have hb2':=hb2.mono HIa.out.n5.2.2.2
 have hI2:=HIa.out.step hk2 hm2 hb2'
 rw [HS1.out,HS2.out]
 clear hs0 hs1
 have hb3:=Q3 (Below.refl w2.heap.size w2) (.cells #[.int .i64 s1,.int .i64 s2] 136)
 have hN2:N0≤w2.heap.size:=by have:=HIa.out.n5.2.2.2;have:=hm2.lt;omega
 have hI3:=hI2.below hb3 hN2
 have hK3:Kept W (w2.alloc (.cells #[.int .i64 s1,.int .i64 s2] 136)) (BxS sb lb cb bm):=((Kept.of_below HBL.out _).then_ (hk2.mono (fun k hk => .inr (.inr (.inr hk)))) (fun k hk => .inl hk)).alloc _
 have hB3:Below N0 W (w2.alloc (.cells #[.int .i64 s1,.int .i64 s2] 136)):=((HBL.out.mono hN).trans hb2').trans (hb3.mono hN2)
 have hlt2:W.heap.size≤w2.heap.size:=by have:=hk2.1;simp at this;omega
 have hcs2:w2.cell? ⟨sb,0,none⟩=some (.int .i64 st.sp):=(Q8 hI2.spb 0).trans rfl
 have qCS:w2.cell? ⟨lb,0,none⟩=some (.int .i64 st.lo):=(Q8 hI2.lob 0).trans rfl
 have qC3:=Q9 hI2.spb 0
 have qC1:=Q9 hI2.lob 0
 have qrC:∃ vc,w2.cell? ⟨cb,0,none⟩=some vc:=by obtain ⟨v,h,_⟩:=hI2.chb;exact ⟨v,(Q8 h 0).trans rfl⟩
 have qC0:w2.frozen? ⟨cb,0,none⟩=false:=by obtain ⟨v,h,_⟩:=hI2.chb;exact Q9 h 0
 obtain ⟨vc2,qrC⟩:=qrC
 obtain ⟨W3,hW3⟩:∃ W3,w2.alloc (.cells #[.int .i64 s1,.int .i64 s2] 136)=W3:=⟨_,rfl⟩
 have hn3:W3.heap[w2.heap.size]? = some (.cells #[.int .i64 s1,.int .i64 s2] 136 (0,0)):=by rw [← hW3];exact World.alloc_heap_new w2 _
 have hV3:Kd.R (Kd.int .i64) 3 W3 N0 (fun k => ¬ BxS sb lb cb bm k) (.slice Av so.length cv) so:=by rw [← hW3];exact Kd.R_kept HV.out hK3 (fun k hk=>hk)
 rw [hW3] at hI3 hK3 hB3 hb3
 have hc0:W3.cell? ⟨w2.heap.size,0,none⟩=some (.int .i64 s1):=(Q8 hn3 0).trans rfl
 have hc1:W3.cell? ⟨w2.heap.size,1,none⟩=some (.int .i64 s2):=(Q8 hn3 1).trans rfl
 have hcs:W3.cell? ⟨sb,0,none⟩=some (.int .i64 st.sp):=(Q8 hI3.spb 0).trans rfl
 have hcl:W3.cell? ⟨lb,0,none⟩=some (.int .i64 st.lo):=(Q8 hI3.lob 0).trans rfl
 obtain ⟨vc,hcb,hcr⟩:=hI3.chb
 have hcc:W3.cell? ⟨cb,0,none⟩=some vc:=(Q8 hcb 0).trans rfl
 have hfs:=Q9 hI3.spb 0
 have hfl:=Q9 hI3.lob 0
 have hfc:=Q9 hcb 0
 obtain ⟨q1,q2,q3,q4,q5,q6⟩:=hI3.n4
 have hsl:sb<w2.heap.size:=QL hI2.spb
 have hll:lb<w2.heap.size:=QL hI2.lob
 have hclt:cb<w2.heap.size:=by obtain ⟨_,h,_⟩:=hI2.chb;exact QL h
 have HI3:=Q0.mk hI3
 have HK3:=Q0.mk hK3
 have HB3:=Q0.mk hB3
 have HV3:=Q0.mk hV3
 have HCB:=Q0.mk hcb
 have qDt:Q0 (w2.heap.size<W3.heap.size):=⟨QL hn3⟩
 have hupd:=HU.out
 have HI2:=Q0.mk hI2
 have HK2:Q0 (Kept W w2 (BxS sb lb cb bm)):=⟨(Kept.of_below HBL.out _).then_ (hk2.mono (fun k hk => .inr (.inr (.inr hk)))) (fun k hk => .inl hk)⟩
 have HV2:=Q0.mk (Kd.R_kept HV.out HK2.out (fun k hk=>hk))
 have HB2:=Q0.mk ((HBL.out.mono hN).trans hb2')
 have HN2:=Q0.mk hN2
 clear hI3 hK3 hB3 hV3 hcb hI2 hb3 hN2 hm2 hk2 hb2 hb2' hlt2 hn3 HI HIa HV HBL hcr HS1 HS2 HU
 subst hW3
 by_cases hu:st.sp<s1∨(s1=st.sp∧s2<st.lo)
 ·
  rw [if_pos hu] at hupd
  subst hupd
  have hg:(decide (st.sp<s1)=true)∨(decide (st.sp<s1)=false∧(s1==st.sp)=true∧decide (s2<st.lo)=true):=by
   by_cases h1:st.sp<s1
   ·
    exact .inl (decide_eq_true h1)
   ·
    rcases hu with h|⟨h2,h3⟩
    ·
     exact absurd h h1
    ·
     exact .inr ⟨decide_eq_false h1,by simpa using h2,decide_eq_true h3⟩
  rcases hg with hg1|⟨hg1,hg2,hg3⟩
  ·
   go_wp2
   go_region
   go_wp2
   refine bodyPost_ret (results_none rfl _ _ _) rfl ?_
   obtain ⟨g1,g2,g3⟩:=HI2.out.put (s1:=s1) (s2:=s2) HV2.out
   have hsz:(((w2.setCell ⟨cb,0,none⟩ (.slice Av so.length cv)).setCell ⟨sb,0,none⟩ (.int .i64 s1)).setCell ⟨lb,0,none⟩ (.int .i64 s2)).heap.size=w2.heap.size:=by simp
   have hbb:=Yr (Q3 (Below.refl (((w2.setCell ⟨cb,0,none⟩ (.slice Av so.length cv)).setCell ⟨sb,0,none⟩ (.int .i64 s1)).setCell ⟨lb,0,none⟩ (.int .i64 s2)).heap.size (((w2.setCell ⟨cb,0,none⟩ (.slice Av so.length cv)).setCell ⟨sb,0,none⟩ (.int .i64 s1)).setCell ⟨lb,0,none⟩ (.int .i64 s2))) (.cells #[.int .i64 s1,.int .i64 s2] 136))
   exact ⟨⟨_,rfl⟩,g1.below hbb (by rw [hsz];exact HN2.out),(HK2.out.then_ g2 (fun k hk => .inl hk)).below hbb,(HB2.out.trans g3).trans (hbb.mono (by rw [hsz];exact HN2.out))⟩
  ·
   go_wp2
   go_region
   go_wp2
   refine bodyPost_ret (results_none rfl _ _ _) rfl ?_
   obtain ⟨g1,g2,g3⟩:=HI2.out.put (s1:=s1) (s2:=s2) HV2.out
   have hsz:(((w2.setCell ⟨cb,0,none⟩ (.slice Av so.length cv)).setCell ⟨sb,0,none⟩ (.int .i64 s1)).setCell ⟨lb,0,none⟩ (.int .i64 s2)).heap.size=w2.heap.size:=by simp
   have hbb:=Yr (Q3 (Below.refl (((w2.setCell ⟨cb,0,none⟩ (.slice Av so.length cv)).setCell ⟨sb,0,none⟩ (.int .i64 s1)).setCell ⟨lb,0,none⟩ (.int .i64 s2)).heap.size (((w2.setCell ⟨cb,0,none⟩ (.slice Av so.length cv)).setCell ⟨sb,0,none⟩ (.int .i64 s1)).setCell ⟨lb,0,none⟩ (.int .i64 s2))) (.cells #[.int .i64 s1,.int .i64 s2] 136))
   exact ⟨⟨_,rfl⟩,g1.below hbb (by rw [hsz];exact HN2.out),(HK2.out.then_ g2 (fun k hk => .inl hk)).below hbb,(HB2.out.trans g3).trans (hbb.mono (by rw [hsz];exact HN2.out))⟩
 ·
  rw [if_neg hu] at hupd
  subst hupd
  have hg1:decide (st.sp<s1)=false:=decide_eq_false (fun h=>hu (.inl h))
  by_cases he:s1=st.sp
  ·
   have hg2:(s1==st.sp)=true:=by simpa using he
   have hg3:decide (s2<st.lo)=false:=decide_eq_false (fun h=>hu (.inr ⟨he,h⟩))
   clear he hu
   go_wp2
   refine bodyPost_ret (results_none rfl _ _ _) rfl ?_
   exact ⟨⟨_,rfl⟩,HI3.out,HK3.out,HB3.out⟩
  ·
   have hg2:(s1==st.sp)=false:=by simpa using he
   clear he hu
   go_wp2
   refine bodyPost_ret (results_none rfl _ _ _) rfl ?_
   exact ⟨⟨_,rfl⟩,HI3.out,HK3.out,HB3.out⟩
end
theorem qnl (cells:List YQ) (sets:List Int) (many:Int) (d i:Nat) (so:List Int) (x:Int) (st:BSt) (h:i+(d+1)=sets.length) :
  Qn.lp cells sets many (d+1) so x st=Qn.lp cells sets many d so x (Qn.cz cells sets many d (so++[(i:Int)]) (Go.bits .or .i64 x (rd sets (i:Int))) st):=by
 have e:sets.length-(d+1)=i:=by omega
 rw [Qn.lp,e,Qn.cz]
 simp
theorem qdN {W:World} {B c:Nat} {A:Option Addr} {mix:List Int} {ok:Nat→Prop} (h:Kd.R (Kd.int .i64) 3 W B ok (.slice A mix.length c) mix) (hl:mix.length≤10) (x:Int) :
  ∃ v' w',(Builtin.append_ #[37,37] 37 #[.slice A mix.length mix.length,.slice (some ⟨W.heap.size,0,none⟩) 1 1]).run Try.prog (W.alloc (.cells #[.int .i64 x] 3)) = .ok v' w' ∧
   Kd.R (Kd.int .i64) 3 w' W.heap.size (fun _=>True) v' (mix++[x])∧W.grownBy w' none:=by
 have hC:=(Kd.R_reads' h).2.2
 have hinf:(Try.prog.info? 3).map (fun i=>(i.zero,i.size,i.bytes))=some (some (.int .i64 0),1,8):=by kernel_rfl
 obtain ⟨i0,hi,hz0,hz1,hz2⟩:=info_parts hinf
 have hb1:Below W.heap.size W (W.alloc (.cells #[.int .i64 x] 3)):=(Below.refl _ W).alloc (Nat.le_refl _) _
 have hnews:∀ j u,[Value.int .i64 x][j]? = some u→(W.alloc (.cells #[.int .i64 x] 3)).cell? (Addr.add ⟨W.heap.size,0,none⟩ j)=some u:=by
  intro j u hj
  have hj0:j=0:=by
   have:=(List.getElem?_eq_some_iff.1 hj).1
   simpa using this
  subst hj0
  rw [show Addr.add ⟨W.heap.size,0,none⟩ 0=(⟨W.heap.size,0,none⟩:Addr) by simp [Addr.add]]
  rw [← hj]
  exact (Q8 (World.alloc_heap_new W _) 0).trans rfl
 have fin:∀ (v':Value) (w':World),w'.ownsRow (W.alloc (.cells #[.int .i64 x] 3)).heap.size 3 1 v' (mix.length+1) (mix.map (Value.int .i64)++[.int .i64 x])→(W.alloc (.cells #[.int .i64 x] 3)).grownBy w' none→Kd.R (Kd.int .i64) 3 w' W.heap.size (fun _=>True) v' (mix++[x])∧W.grownBy w' none:=by
  intro v' w' ho hg
  refine ⟨Kd.R_of_own (Xp (base:=(W.alloc (.cells #[.int .i64 x] 3)).heap.size) ?_ (by simp)) (fun _ _=>trivial),(World.grownBy_alloc W _ none).trans hg⟩
  have e1:(mix++[x]).length=mix.length+1:=by simp
  have e2:encs (Value.int .i64) (mix++[x])=mix.map (Value.int .i64)++[.int .i64 x]:=by simp [encs]
  rw [e1,e2]
  exact ho
 cases A with
 | none =>
  have hm:mix=[]:=by
   by_cases hz:0<mix.length
   ·
    obtain ⟨ad,e,_⟩:=XA (W:=W) hC (Below.refl _ _) (by simpa using hz);cases e
   ·
    exact List.eq_nil_of_length_eq_zero (by omega)
  subst hm
  obtain ⟨v',w',hrun,r1,r2,_⟩:=run_append_own (P:=Try.prog) (W.alloc (.cells #[.int .i64 x] 3)) (W.alloc (.cells #[.int .i64 x] 3)).heap.size 37 37 3 i0 (.int .i64 0) 1 8 Try.underlying37 hi hz0 hz1 hz2 rfl (by decide) (.slice none 0 0) 0 [] (World.ownsRow_nil _ _ 3 1) ⟨W.heap.size,0,none⟩ 1 1 [.int .i64 x] rfl hnews (by simp [Value.oneCell']) (by decide) (by decide) (Nat.le_refl _)
  exact ⟨v',w',hrun,fin v' w' (by simpa using r1) (by simpa [Value.ownBlock] using r2)⟩
 | some ad =>
  obtain ⟨v',w',hrun,r1,r2⟩:=run_append_arg_grows (P:=Try.prog) (W.alloc (.cells #[.int .i64 x] 3)) 37 37 3 i0 (.int .i64 0) 1 8 Try.underlying37 hi hz0 hz1 hz2 rfl (by decide) ad mix.length mix.length (mix.map (Value.int .i64)) (by simp) (fun j u hj=>by
   obtain ⟨ad',e,hc⟩:=XA (w:=W) (W:=W.alloc (.cells #[.int .i64 x] 3)) hC hb1 (by have:=(List.getElem?_eq_some_iff.1 hj).1;omega)
   cases e
   exact hc j u hj) ⟨W.heap.size,0,none⟩ 1 1 [.int .i64 x] rfl hnews (by omega) (by simp only [maxLen];omega) (by omega)
  exact ⟨v',w',hrun,fin v' w' r1 r2⟩
theorem qbj {P:Program} {ops:Array Oper} {Q:Exit→Act→World→Prop} {o:Oper} {a:Act} {W W1:World} {K:Act→World→Prop} (hw:Region.wanted o (yielded ops a.tmps)=true) (s x:Operand) (t t1:TypeId)
  (ho:o.op = .call { callee:=.builtin .append,args:=#[s,x],argTypes:=#[t,t] }) (hty:o.type=t1) {vs vx v:Value} (hs:a.eval s=vs) (hx:a.eval x=vx) (hrun:(Builtin.append_ #[t,t] t1 #[vs,vx]).run P W = .ok v W1) (h:K (a.put o.dst v) W1) :
  if Region.wanted o (yielded ops a.tmps)=true then Oper.wp P o a W K Q else K (a.put o.dst undef) W:=by
 rw [if_pos hw]
 subst hty
 unfold Oper.wp execOp
 simp only [ho,resolve,invoke,builtin,Sem.run_bind,Sem.run_pure,Result.andThen_ok,List.map_toArray,List.map_cons,List.map_nil,hs,hx,hrun]
 exact h
theorem qpx {P : Program} {ops : Array Oper} {Q : Exit → Act → World → Prop} {oi : Oper} {N : Option Tmp} {a : Act} {w : World} {K : Act → World → Prop} {f : FuncId} {fn : Func} {ao : Array Operand} {ts : Array TypeId} (hf : P.funcs[f]? = some fn) (hname : (fn.name == "runtime.NumGoroutine") = false) (hb : fn.body.isSome = true) (args : Array Value) (t : Tmp) (bound caps : Array Value)
  (hw:Region.wanted oi (yielded ops a.tmps)=true) (hN:oi.dst=N) (hop:oi.op = .call { callee:=.value (.tmp t),args:=ao,argTypes:=ts }) (hev:a.eval (.tmp t) = .func (.func f) bound caps) (hargs:bound++ao.map a.eval++caps=args)
  (h:Calls P f args w fun e w' => ∃ v,e = .returned v∧K (a.put N v) w'):if Region.wanted oi (yielded ops a.tmps)=true then Oper.wp P oi a w K Q else K (a.put N undef) w:=by
 refine qkc f args hw hN ?_ h
 have he:=XJ hf hname hb args w
 unfold execOp
 simp [hop,resolve,Deferred.ofValue,invoke,hev,hargs,he]
section
variable {N0 seb sb lb cb tb fb bm:Nat} {A:Option Addr} {c:Nat} {cells:List YQ} {At:Option Addr} {ct:Nat} {sets:List Int}
attribute [-go_sem] Builtin.append_
set_option maxHeartbeats 4000000 in
set_option maxRecDepth 100000 in
theorem Kq.calls (many:Int) (hn:sets.length≤8):∀ (d0:Nat) (v:Value) (so:List Int) (x:Int) (st:BSt) (W:World),((so=[]∧d0=sets.length) ∨ ∃ (p:List Int) (l:Nat),so=p++[(l:Int)]∧l+1+d0=sets.length)→so.length+d0≤sets.length →
  BxI N0 seb sb lb cb tb fb bm A c cells At ct sets W st→N0≤W.heap.size→Kd.R (Kd.int .i64) 3 W N0 (fun k => ¬ BxS sb lb cb bm k) v so→(Lit.int .i64 x).wf=true →
  Calls Try.prog 90 #[v,.agg #[.int .i64 x],.int .i64 many,.pointer (some ⟨seb,0,none⟩),.pointer (some ⟨sb,0,none⟩),.pointer (some ⟨lb,0,none⟩),.pointer (some ⟨cb,0,none⟩),.pointer (some ⟨tb,0,none⟩),.pointer (some ⟨fb,0,none⟩)] W
   fun e w'=>(∃ u,e = .returned u)∧BxI N0 seb sb lb cb tb fb bm A c cells At ct sets w' (Qn.cz cells sets many d0 so x st)∧Kept W w' (BxS sb lb cb bm)∧Below N0 W w':=by
 intro d0
 induction d0 using Nat.strongRecOn with
 | ind d0 ih =>
 intro v so x st W hfrom hlen hI hN hv hx
 by_cases hm:(so.length:Int)=many
 ·
  subst hm
  rw [Qn.cz,if_pos rfl]
  exact Kq.leaf v so x hI hN hv hx
 ·
  obtain ⟨fin,hfin⟩:∃ fin,Qn.cz cells sets many d0 so x st=fin:=⟨_,rfl⟩
  rw [hfin]
  rw [Qn.cz,if_neg hm] at hfin
  have hm2:((so.length:Int)==many)=false:=by simpa using hm
  obtain ⟨Av,cv,rfl,hcv,hCv⟩:=Kd.R_reads hv
  have qoG:=Try.underlying139
  have hbl:=Q3 (Below.refl W.heap.size W) (.cells #[.int .i64 x] 139)
  have hIa:=hI.below hbl hN
  have hmx:so.length≤9223372036854775807:=hCv.2.1
  obtain ⟨W1,hW1⟩:∃ W1,W.alloc (.cells #[.int .i64 x] 139)=W1:=⟨_,rfl⟩
  have hx1:W1.heap[W.heap.size]? = some (.cells #[.int .i64 x] 139 (0,0)):=by rw [← hW1];exact World.alloc_heap_new W _
  have hC1:Kd.C (Kd.int .i64) W1 Av so.length so:=by rw [← hW1];exact Kd.C_below hCv hbl
  have hV1:Kd.R (Kd.int .i64) 3 W1 N0 (fun k => ¬ BxS sb lb cb bm k) (.slice Av so.length cv) so:=by rw [← hW1];exact Kd.R_below hv hbl
  rw [hW1] at hbl hIa
  have hlt:W.heap.size<W1.heap.size:=QL hx1
  have hbs:∀ k,BxS sb lb cb bm k→k<W.heap.size:=fun k hk=>by
   rcases hk with rfl|rfl|rfl|rfl
   ·
    exact QL hI.spb
   ·
    exact QL hI.lob
   ·
    obtain ⟨_,h,_⟩:=hI.chb;exact QL h
   ·
    exact hI.map.lt
  obtain ⟨fr,hfr⟩:∃ fr:Nat,fr+d0=sets.length:=⟨sets.length-d0,by omega⟩
  have hlast:so≠[]→0<so.length∧rd so ((so.length:Int)-1)=(fr:Int)-1:=fun h=>by
   rcases hfrom with ⟨h1,_⟩|⟨p,l,rfl,hl⟩
   ·
    exact absurd h1 h
   ·
    refine ⟨by simp,?_⟩
    simp [rd,List.getD_eq_getElem?_getD]
    omega
  have hfirst:so=[]→fr=0:=fun h=>by
   rcases hfrom with ⟨h1,h2⟩|⟨p,l,rfl,hl⟩
   ·
    omega
   ·
    simp at h
  have HF:=Q0.mk hfin
  have HIA:=Q0.mk hIa
  have HBL:=Q0.mk hbl
  have HX1:=Q0.mk hx1
  have HV1:=Q0.mk hV1
  have HC1:=Q0.mk hC1
  have HFR:=Q0.mk hfr
  have HBS:=Q0.mk hbs
  clear hfin hIa hbl hx1 hV1 hC1 hfr hI hv hCv hfrom hbs hm
  go_enter Try.func90,Try.ntmps90
  go_upto_if 45 with (fail)
  go_cut [13] (fun v13 wc=>v13 = .int .i64 (fr:Int)∧wc=W1)
  case first =>
   by_cases hso:so=[]
   ·
    have h0:=hfirst hso;subst h0
    have hl1:¬ (0<so.length):=by rw [hso];decide
    have hl0:decide (0<so.length)=false:=decide_eq_false hl1;clear hso hlast hfirst
    go_wp2
    go_meet
    case rel=>exact ⟨rfl,rfl⟩
   ·
    obtain ⟨hp,hl⟩:=hlast hso;obtain ⟨ad,ea,hxl⟩:=Kd.at_int HC1.out ((so.length:Int)-1) (by omega) (by omega);subst ea;rw [hl] at hxl;rw [show ((so.length:Int)-1).toNat=so.length-1 by omega] at hxl;have hl0:decide (0<so.length)=true:=decide_eq_true hp
    have qC2:fr≤8:=by have:=HFR.out;omega
    have hw1:((fr:Int)-1+1)=(fr:Int):=by omega
    clear hlast hfirst hl hso
    go_wp2
    go_meet
    case rel=>exact ⟨by rw [← hw1],rfl⟩
  case rest =>
   obtain ⟨rfl,rfl⟩:=hcut
   clear hlast hfirst
   go_wp2
   go_loopg [14] d0 (fun d v14 wr => ∃ (i:Nat),v14 = .int .i64 (i:Int)∧Q0 (i+d=sets.length∧d≤d0)∧Q0 (∃ st',BxI N0 seb sb lb cb tb fb bm A c cells At ct sets wr st'∧Qn.lp cells sets many d so x st'=fin)∧Q0 (Kept wc wr (BxS sb lb cb bm))∧Q0 (Below N0 wc wr))
   case atStart=>exact ⟨fr,rfl,⟨HFR.out,Nat.le_refl _⟩,⟨st,HIA.out,HF.out⟩,⟨Kept.refl _ _⟩,⟨Below.refl _ _⟩⟩
   case round =>
    obtain ⟨i,rfl,HD,HS,HK,HB⟩:=hrel;obtain ⟨st',hI',hlp⟩:=HS.out;have htb:wr.cell? ⟨tb,0,none⟩=some (.slice At sets.length ct):=(Q8 hI'.tbx 0).trans rfl;have HI':=Q0.mk hI';have HLP:=Q0.mk hlp
    have hn9:sets.length≤9223372036854775807:=by omega
    clear hI' hlp HS
    by_cases hi:i<sets.length
    ·
     obtain ⟨d,rfl⟩:∃ d,gk=d+1:=⟨gk-1,by have:=HD.out;omega⟩;have hDD:=HD.out;obtain ⟨tr,cr,er,_,_,_,_⟩:=Kd.R_form HI'.out.row (by omega)
     injection er with e1 _ e2
     subst e1 e2;obtain ⟨ad,ea,hel⟩:=Kd.at_int (Kd.R_reads' HI'.out.row).2.2 (i:Int) (by omega) (by omega)
     injection ea with ea
     subst ea;rw [Int.toNat_natCast] at hel
     have hel:wr.cell? ⟨tr,i,none⟩=some (.int .i64 (rd sets (i:Int))):=by rwa [KV] at hel
     have hfb:wr.cell? ⟨fb,0,none⟩=some (.func (.func 90) #[] #[.pointer (some ⟨seb,0,none⟩),.pointer (some ⟨sb,0,none⟩),.pointer (some ⟨lb,0,none⟩),.pointer (some ⟨cb,0,none⟩),.pointer (some ⟨tb,0,none⟩),.pointer (some ⟨fb,0,none⟩)]):=(Q8 HI'.out.fbx 0).trans rfl;have hxr:wr.heap[W.heap.size]? = some (.cells #[.int .i64 x] 139 (0,0)):=GT HX1.out HK.out (fun h=>by have:=HBS.out _ h;omega);have hx0:wr.cell? ⟨W.heap.size,0,none⟩=some (.int .i64 x):=(Q8 hxr 0).trans rfl;have hsz:wc.heap.size≤wr.heap.size:=HK.out.1;have hVr:Kd.R (Kd.int .i64) 3 wr.drew N0 (fun k => ¬ BxS sb lb cb bm k) (.slice Av so.length cv) so:=Kd.R_drew (Kd.R_kept HV1.out HK.out (fun k hk=>hk));obtain ⟨v1,w1,hrun',hr1,hg1⟩:=qdN hVr (by omega) (i:Int);have hg0:wr.grownBy w1 none:=UU hg1;have hb1:Below wr.heap.size wr w1:=(Below.refl _ _).grown hg0 (Nat.le_refl _) (fun k e=>by cases e);have qAZ:=UG (P:=Try.prog) 37 3 Try.underlying37 rfl Av so.length cv hcv;obtain ⟨or,hor⟩:∃ o,Go.bits .or .i64 x (rd sets (i:Int))=o:=⟨_,rfl⟩;have qja:=HLP.out;rw [qnl cells sets many d i so x st' hDD.1,hor] at qja
     have hworz:(Lit.int .i64 or).wf=true:=by rw [← hor];exact qp5 _ _ _ _
     have hNr:N0≤wr.heap.size:=by omega
     have hN1:N0≤w1.heap.size:=by have:=hb1.size;omega
     have hr1':Kd.R (Kd.int .i64) 3 w1 N0 (fun k => ¬ BxS sb lb cb bm k) v1 (so++[(i:Int)]):=Kd.R_mono (Kd.R_bound (Kd.R_lower (Kd.R_mono (Kd.R_bound hr1) (fun k hk=>(⟨hk.2.1,trivial⟩:wr.drew.heap.size≤k∧True))) (show N0≤wr.drew.heap.size from hNr))) (fun k hk e=>by have h1:=HBS.out k e;have h2:wr.heap.size≤k:=hk.1.1;omega);have hcall:=ih d (by omega) v1 (so++[(i:Int)]) or st' w1 (.inr ⟨so,i,rfl,by omega⟩) (by simp;omega) (HI'.out.below hb1 hNr) hN1 hr1' hworz
     have hSb:∀ z:World,Below wr.heap.size wr z→z.cell? ⟨fb,0,none⟩=some (.func (.func 90) #[] #[.pointer (some ⟨seb,0,none⟩),.pointer (some ⟨sb,0,none⟩),.pointer (some ⟨lb,0,none⟩),.pointer (some ⟨cb,0,none⟩),.pointer (some ⟨tb,0,none⟩),.pointer (some ⟨fb,0,none⟩)])∧z.cell? ⟨W.heap.size,0,none⟩=some (.int .i64 x)∧z.cell? ⟨tb,0,none⟩=some (.slice (some ⟨tr,0,none⟩) sets.length ct)∧z.cell? ⟨tr,i,none⟩=some (.int .i64 (rd sets (i:Int))):=fun z hz =>
      ⟨(hz.cell (World.block_lt_of_cell? wr _ hfb)).trans hfb,(hz.cell (World.block_lt_of_cell? wr _ hx0)).trans hx0,(hz.cell (World.block_lt_of_cell? wr _ htb)).trans htb,(hz.cell (World.block_lt_of_cell? wr _ hel)).trans hel⟩
     have htrS:¬ BxS sb lb cb bm tr:=HI'.out.row.1 tr rfl
     have hSk:∀ z:World,Kept w1 z (BxS sb lb cb bm)→z.cell? ⟨fb,0,none⟩=some (.func (.func 90) #[] #[.pointer (some ⟨seb,0,none⟩),.pointer (some ⟨sb,0,none⟩),.pointer (some ⟨lb,0,none⟩),.pointer (some ⟨cb,0,none⟩),.pointer (some ⟨tb,0,none⟩),.pointer (some ⟨fb,0,none⟩)])∧z.cell? ⟨W.heap.size,0,none⟩=some (.int .i64 x)∧z.cell? ⟨tb,0,none⟩=some (.slice (some ⟨tr,0,none⟩) sets.length ct)∧z.cell? ⟨tr,i,none⟩=some (.int .i64 (rd sets (i:Int))):=fun z hz=>by
      obtain ⟨q1,q2,q3,q4⟩:=hSb w1 hb1;refine ⟨YtmhomdohhihlcaaW.PrintWords.WO q1 hz (fun e => ?_),YtmhomdohhihlcaaW.PrintWords.WO q2 hz (fun e => ?_),YtmhomdohhihlcaaW.PrintWords.WO q3 hz (fun e => ?_),YtmhomdohhihlcaaW.PrintWords.WO q4 hz htrS⟩
      ·
       obtain ⟨a1,a2,a3,a4⟩:=HI'.out.n3
       rcases e with e|e|e|e
       ·
        exact a1 e
       ·
        exact a2 e
       ·
        exact a3 e
       ·
        exact a4 e
      ·
       have:=HBS.out _ e
       exact absurd this (Nat.lt_irrefl _)
      ·
       obtain ⟨a1,a2,a3,a4⟩:=HI'.out.n2
       rcases e with e|e|e|e
       ·
        exact a1 e
       ·
        exact a2 e
       ·
        exact a3 e
       ·
        exact a4 e
     have HSk:=Q0.mk hSk;have HSb:=Q0.mk hSb;have HB1:=Q0.mk hb1;have qzd:=Q0.mk qja;have HRUN:=Q0.mk (show (Builtin.append_ #[37,37] 37 #[.slice Av so.length so.length,.slice (some ⟨wr.heap.size,0,none⟩) 1 1]).run Try.prog (wr.alloc (.cells #[.int .i64 (i:Int)] 3)).drew = .ok v1 w1 from hrun');have HCALL:=Q0.mk hcall;clear hSk htrS hSb hb1 qja hrun' hcall hg1 hg0 hr1 hr1' hworz hxr hDD
     go_wp2
     go_upto_region 11 with (fail)
     go_region_held3 (fun z=>z.cell? ⟨fb,0,none⟩=some (.func (.func 90) #[] #[.pointer (some ⟨seb,0,none⟩),.pointer (some ⟨sb,0,none⟩),.pointer (some ⟨lb,0,none⟩),.pointer (some ⟨cb,0,none⟩),.pointer (some ⟨tb,0,none⟩),.pointer (some ⟨fb,0,none⟩)])∧z.cell? ⟨W.heap.size,0,none⟩=some (.int .i64 x)∧z.cell? ⟨tb,0,none⟩=some (.slice (some ⟨tr,0,none⟩) sets.length ct)∧z.cell? ⟨tr,i,none⟩=some (.int .i64 (rd sets (i:Int))))
      (first|exact HSb.out _ (Yr (Below.refl _ _))|exact HSb.out _ (Yr (Q3 (Below.refl _ _) _))|exact HSb.out _ (Q3 (Yr (Below.refl _ _)) _)|exact HSb.out _ HB1.out|exact HSk.out _ hKe|go_keep)
      (first|(refine qbj ?hwA (.tmp 66) (.tmp 68) 37 37 rfl rfl rfl rfl HRUN.out ?_;(case hwA=>rfl))|(refine qpx Try.func90 ?hnm rfl #[v1,.agg #[.int .i64 or],.int .i64 many,.pointer (some ⟨seb,0,none⟩),.pointer (some ⟨sb,0,none⟩),.pointer (some ⟨lb,0,none⟩),.pointer (some ⟨cb,0,none⟩),.pointer (some ⟨tb,0,none⟩),.pointer (some ⟨fb,0,none⟩)] 60 #[] #[.pointer (some ⟨seb,0,none⟩),.pointer (some ⟨sb,0,none⟩),.pointer (some ⟨lb,0,none⟩),.pointer (some ⟨cb,0,none⟩),.pointer (some ⟨tb,0,none⟩),.pointer (some ⟨fb,0,none⟩)] ?hwC rfl rfl ?hevC ?hagC ?_;(case hnm=>kernel_rfl);(case hwC=>rfl);(case hevC=>rfl);(case hagC=>simp only [List.map_toArray,List.map_cons,List.map_nil];rfl);refine HCALL.out.mono ?_;rintro e W' ⟨⟨u,rfl⟩,hIe,hKe,hBe⟩;refine ⟨u,rfl,?_⟩))
     all_goals
      have HIE:=Q0.mk hIe;have HKE:=Q0.mk hKe;have HBE:=Q0.mk hBe;clear hIe hKe hBe
      go_wp2
      go_roundg d
      case measure=>omega
      case rel=>exact ⟨i+1,by simp,⟨by have:=HD.out;omega⟩,⟨_,HIE.out,qzd.out⟩,⟨(HK.out.below HB1.out).then_ HKE.out (fun k hk => .inl hk)⟩,⟨(HB.out.trans (HB1.out.mono hNr)).trans HBE.out⟩⟩
    ·
     have qja:=HLP.out
     have hd0:gk=0:=by have:=HD.out;omega
     subst hd0;rw [Qn.lp] at qja;subst qja
     go_wp2
     go_end0
     exact ⟨⟨_,rfl⟩,HI'.out,((Kept.of_below HBL.out _).then_ HK.out (fun k hk => .inl hk)),(HBL.out.mono hN).trans HB.out⟩
end
end
section
attribute [local go_sem] Yn Yp YA YC Yb Yc Yo Yq
def Qj.f (a0:Int) (a1:Int) (a2:Int):Option (Bool):=if a1≤a0 then (some (decide (a0≤a2))) else (some false)
set_option maxHeartbeats 8000000 in
set_option maxRecDepth 100000 in
theorem Qj.calls (a0:Int) (a1:Int) (a2:Int) (r:Bool) (w:World) (h:Qj.f a0 a1 a2=some r) :
  Calls Try.prog 65 #[.int .i64 a0,.int .i64 a1,.int .i64 a2] w fun e w'=>e = .returned (.bool r)∧Yg w w':=by
 have H:(if a1≤a0 then (some (decide (a0≤a2))) else (some false))=some r:=h
 clear h
 by_cases c4:a1≤a0
 ·
  rw [if_pos c4] at H
  have c4b0:decide (a1≤a0)=true:=decide_eq_true c4
  clear c4
  obtain rfl:=Option.some.inj H
  go_enter Try.func65,Try.ntmps65
  go_wp2
  go_ret
  exact ⟨by first|rfl|(simp;done)|(simp [*];done),by repeat (first|exact Yg.refl _|apply Yg.step)⟩
 rw [if_neg c4] at H
 have c4b0:decide (a1≤a0)=false:=decide_eq_false c4
 clear c4
 obtain rfl:=Option.some.inj H
 go_enter Try.func65,Try.ntmps65
 go_wp2
 go_ret
 exact ⟨by first|rfl|(simp;done)|(simp [*];done),by repeat (first|exact Yg.refl _|apply Yg.step)⟩
end
end Go.Proofs.Ytmhomdohhihlcaa.P
