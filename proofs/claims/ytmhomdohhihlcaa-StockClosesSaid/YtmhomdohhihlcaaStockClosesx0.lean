/- What the statement StockCloses leans on, part 1 of 5: contracts of the program's functions; conditions: none. -/
import Derived.Below
import Derived.Deep.Draws
import Derived.Deep.AppendLies
import Derived.Maps.AppendAt
import Derived.OwnWalk
import Derived.Laws.BytesArg
import Derived.Laws.MakeOwn
import Derived.Laws.OwnMore
import Derived.Deep.OwnRows
import Derived.Tactics
import Derived.Lib.ConvBytes
import Derived.Laws.Slices
import Derived.WalkKit
import Derived.KernelRfl
import Derived.RowKit3
import Derived.Deep.LoopGhost
import Derived.Deep.QuietTactic
import Derived.BigQuiet
import Derived.WideLaws
import Derived.Deep.DeepCutAuto
import Derived.Deep.CutBlock
import Derived.Deep.RegionHeld3
import Derived.Laws.Rows
import Derived.Lib.AppendStr
import Derived.ArgAppend
import Derived.Laws.IdiomCopy
import Derived.RowKit
import Derived.OrdersHeld
import Derived.Laws.BitsLemmas
import Derived.Laws.StructEq
import Derived.Test.YtmhomdohhihlcaaProg
import Derived.Laws.CopyOwn
import Derived.Maps.OwnSet
import Derived.DeepKeys4
import Derived.RangeFuncRecord
set_option linter.unusedVariables false
set_option linter.unusedSimpArgs false
set_option linter.constructorNameAsVariable false
set_option linter.unusedSectionVars false
namespace Go.Proofs.YtmhomdohhihlcaaW.PrintWords
open Go.RowKit
structure Q1 (p:Prop):Prop where mk::(out:p)
structure QS (w w':World):Prop where mk::(out:∃ n,w'=w.drewN n)
theorem QS.refl (w:World):QS w w:=⟨⟨0,rfl⟩⟩
theorem QS.step {w w':World} (h:QS w w') (n:Nat):QS w (w'.drewN n):=by
 obtain ⟨m,rfl⟩:=h
 exact ⟨⟨m+n,World.drewN_drewN ..⟩⟩
def rd (xs:List Int) (i:Int):Int:=xs.getD i.toNat 0
theorem Q2 {w W:World} (h:Below w.heap.size w W) (o:Obj):Below w.heap.size w (W.alloc o):=h.alloc h.size o
theorem Ym {B:Nat} {w W:World} (h:Below B w W):Below B w W.drew:=⟨h.os,h.tape,h.output,h.size,h.block⟩
theorem Q0 {B:Nat} {w W:World} (h:Below B w W) (n:Nat):Below B w (W.drewN n):=⟨h.os,h.tape,h.output,h.size,h.block⟩
theorem qfT {B:Nat} {w w1 w2:World} (h:Below B w w1) (hB:B≤w1.heap.size) (k:Below w1.heap.size w1 w2):Below B w w2 :=
 h.trans ⟨k.os,k.tape,k.output,k.size,fun i hi=>k.block i (Nat.lt_of_lt_of_le hi hB)⟩
theorem qb3 {w w1:World} (h:Below w.heap.size w w1) (row:Option Nat):w.grownBy w1 row:=⟨h.os,h.tape,h.output,h.size,fun i hi _=>h.block i hi⟩
theorem qcq {w w1:World} (h:Below w.heap.size w w1) {a:Addr} {v:Value} (hc:w.cell? a=some v):w1.cell? a=some v:=(h.cell (World.block_lt_of_cell? w a hc)).trans hc
theorem Uu (g j:Nat):(⟨g,0,none⟩:Addr).add j=⟨g,j,none⟩:=by unfold Addr.add;split<;>simp_all
def qpZ (w:World) (k:IntKind) (A:Option Addr) (n:Nat) (xs:List Int):Prop :=
 xs.length=n∧n≤9223372036854775807∧(0<n → ∃ ad,A=some ad ∧ ∀ j,j<n→w.cell? (ad.add j)=some (.int k (xs.getD j 0)))
theorem qmD (W:World) (base:Nat) (e:TypeId) (size:Nat):W.ownsRow base e size (.slice none 0 0) 0 []:=⟨by simp,.inl ⟨rfl,rfl⟩⟩
theorem XY {w:World} {base:Nat} {e:TypeId} {size n:Nat} {v:Value} {xs:List Value} (h:w.ownsRow base e size v n xs) (k:Nat) (hk:v.ownBlock=some k):base≤k:=by
 rcases h.2 with ⟨rfl,_⟩|⟨g,cap,cur,rfl,hb,_⟩
 ·
  simp [Value.ownBlock] at hk
 have:g=k:=by simpa [Value.ownBlock] using hk
 omega
theorem qkb {w:World} {base:Nat} {e:TypeId} {size n:Nat} {v:Value} {xs:List Value} (h:w.ownsRow base e size v n xs) (k:Nat) (hk:v.ownBlock=some k):k<w.heap.size:=by
 rcases h.2 with ⟨rfl,_⟩|⟨g,cap,cur,rfl,hb,hh,_⟩
 ·
  simp [Value.ownBlock] at hk
 have:g=k:=by simpa [Value.ownBlock] using hk
 subst this
 exact (Array.getElem?_eq_some_iff.1 hh).1
theorem qmL {w w1:World} {base:Nat} {e:TypeId} {size n:Nat} {v:Value} {xs:List Value} (h:w.ownsRow base e size v n xs) (hb:Below w.heap.size w w1):w1.ownsRow base e size v n xs :=
 h.kept (qb3 hb none) (by cases v.ownBlock<;>simp)
theorem qiF {w:World} {base n:Nat} {e:TypeId} {size:Nat} {v:Value} {xs:List Value} (h:w.ownsRow base e size v n xs):∃ A c,v = .slice A n c:=by
 rcases h.2 with ⟨rfl,rfl⟩|⟨g,cap,cur,rfl,_⟩
 ·
  exact ⟨none,0,rfl⟩
 exact ⟨_,cap,rfl⟩
def bytesOf (s:ByteArray):List Int:=s.data.toList.map fun b=>(b.toNat:Int)
def LeO {α:Type} (a b:Option α):Prop:=∀ r,a=some r→b=some r
theorem LeO.refl {α:Type} (a:Option α):LeO a a:=fun _ h=>h
theorem LeO.none {α:Type} (b:Option α):LeO Option.none b:=fun _ h=>by cases h
theorem LeO.ite {α:Type} {c:Prop} [Decidable c] {a a' b b':Option α} (h:LeO a a') (k:LeO b b'):LeO (if c then a else b) (if c then a' else b'):=by
 split
 ·
  exact h
 exact k
theorem LeO.bind {α β:Type} {a a':Option α} {f f':α→Option β} (h:LeO a a') (k:∀ x,LeO (f x) (f' x)):LeO (a.bind f) (a'.bind f'):=by
 intro r hr
 obtain ⟨x,hx,hf⟩:=Option.bind_eq_some_iff.1 hr
 exact Option.bind_eq_some_iff.2 ⟨x,h x hx,k x r hf⟩
theorem LeO.map {α β:Type} {a a':Option α} (f:α→β) (h:LeO a a'):LeO (a.map f) (a'.map f):=by
 intro r hr
 obtain ⟨x,hx,hf⟩:=Option.map_eq_some_iff.1 hr
 exact Option.map_eq_some_iff.2 ⟨x,h x hx,hf⟩
def Reps {α:Type} (R:α→List Value→Prop) (size:Nat) (ps:List α) (cs:List Value):Prop :=
 cs.length=ps.length*size ∧ ∀ j p,ps[j]? = some p→R p ((cs.drop (j*size)).take size)
theorem Reps.none {α:Type} (R:α→List Value→Prop) (size:Nat):Reps R size [] []:=⟨by simp,fun j p h=>by simp at h⟩
theorem Reps.snoc {α:Type} {R:α→List Value→Prop} {size:Nat} {ps:List α} {cs c:List Value} {p:α} (h:Reps R size ps cs) (hp:R p c) (hc:c.length=size):Reps R size (ps++[p]) (cs++c):=by
 refine ⟨by rw [List.length_append,h.1,hc,List.length_append,List.length_singleton,Nat.add_mul,Nat.one_mul],fun j q hq => ?_⟩
 rcases Nat.lt_or_ge j ps.length with hj|hj
 ·
  rw [List.getElem?_append_left hj] at hq
  have h1:j*size+size≤cs.length:=by rw [h.1,← Nat.succ_mul];exact Nat.mul_le_mul_right _ hj
  have h2:=h.2 j q hq
  rw [List.drop_append_of_le_length (by omega),List.take_append_of_le_length (by rw [List.length_drop];omega)]
  exact h2
 have hj':j=ps.length:=by
  have:=(List.getElem?_eq_some_iff.1 hq).1
  rw [List.length_append,List.length_singleton] at this
  omega
 subst hj'
 have hq':p=q:=by simpa using hq
 subst hq'
 rw [← h.1,List.drop_left,← hc,List.take_length]
 exact hp
theorem Reps.imp_ {α:Type} {R R':α→List Value→Prop} {size:Nat} {ps:List α} {cs:List Value} (h:Reps R size ps cs) (hR:∀ p c,R p c→R' p c):Reps R' size ps cs:=⟨h.1,fun j p hj=>hR _ _ (h.2 j p hj)⟩
def GL {α:Type} (R:α→List Value→Prop) (size:Nat) (w:World) (A:Option Addr) (n:Nat) (ps:List α):Prop :=
 ps.length=n∧n≤9223372036854775807∧(0<n → ∃ ad,A=some ad ∧ ∀ j p,ps[j]? = some p → ∃ c,c.length=size∧R p c ∧ ∀ i u,c[i]? = some u→w.cell? (ad.add (j*size+i))=some u)
theorem GL.get_ {α:Type} {R:α→List Value→Prop} {size:Nat} {w:World} {A:Option Addr} {n:Nat} {ps:List α} (h:GL R size w A n ps) (d:α) (i:Int) (h0:0≤i) (h1:i<n) :
  ∃ ad c,A=some ad∧c.length=size∧R (ps.getD i.toNat d) c ∧ ∀ j u,c[j]? = some u→w.cell? (ad.add (i.toNat*size+j))=some u:=by
 obtain ⟨ad,e,hc⟩:=h.2.2 (by omega)
 have hl:i.toNat<ps.length:=by have:=h.1;omega
 obtain ⟨c,hs,hr,hcell⟩:=hc i.toNat _ (List.getElem?_eq_getElem hl)
 refine ⟨ad,c,e,hs,?_,hcell⟩
 rw [List.getD_eq_getElem?_getD,List.getElem?_eq_getElem hl]
 exact hr
theorem GL.imp_ {α:Type} {R R':α→List Value→Prop} {size:Nat} {w w1:World} {A:Option Addr} {n:Nat} {ps:List α} (h:GL R size w A n ps) (hb:Below w.heap.size w w1) (hR:∀ p c,R p c→R' p c):GL R' size w1 A n ps :=
 ⟨h.1,h.2.1,fun hn=>by
  obtain ⟨ad,e,hc⟩:=h.2.2 hn
  refine ⟨ad,e,fun j p hj => ?_⟩
  obtain ⟨c,hs,hr,hcell⟩:=hc j p hj
  exact ⟨c,hs,hR _ _ hr,fun i u hu=>qcq hb (hcell i u hu)⟩⟩
theorem qco {α:Type} {R:α→List Value→Prop} {w:World} {base n size:Nat} {e:TypeId} {v:Value} {ps:List α} {cs:List Value} (h:w.ownsRow base e size v n cs) (hR:Reps R size ps cs) (hn:ps.length=n) :
  ∃ A c,v = .slice A n c∧GL R size w A n ps:=by
 rcases Nat.eq_zero_or_pos n with h0|h0
 ·
  rcases h.2 with ⟨rfl,rfl⟩|⟨g,cap,cur,rfl,_⟩
  ·
   exact ⟨none,0,rfl,hn,by omega,fun hp=>absurd hp (by omega)⟩
  exact ⟨_,cap,rfl,hn,by omega,fun hp=>absurd hp (by omega)⟩
 obtain ⟨g,cap,rfl,_,_⟩:=h.form h0
 have hm:n≤9223372036854775807:=by
  rcases h.2 with ⟨_,h1⟩|⟨g',cap',cur,he,_,_,h1,h2,_⟩
  ·
   omega
  simp only [maxLen] at h2
  omega
 refine ⟨_,cap,rfl,hn,hm,fun _=>⟨_,rfl,fun j p hj=>⟨(cs.drop (j*size)).take size,?_,hR.2 j p hj,fun i u hu => ?_⟩⟩⟩
 ·
  have hjl:=(List.getElem?_eq_some_iff.1 hj).1
  have h1:j*size+size≤cs.length:=by rw [hR.1,← Nat.succ_mul];exact Nat.mul_le_mul_right _ hjl
  rw [List.length_take,List.length_drop]
  omega
 refine h.cells (g:=g) rfl _ u ?_
 rw [List.getElem?_take] at hu
 split at hu
 ·
  rw [List.getElem?_drop] at hu
  exact hu
 cases hu
theorem Ko (ad:Addr) (m j:Nat) (hj:0<j):ad.add (m+j)=⟨(ad.add m).block,(ad.add m).off+j,none⟩:=by
 unfold Addr.add
 by_cases hm:m=0
 ·
  subst hm
  simp [Nat.ne_of_gt hj]
 simp [hm,Nat.add_assoc]
section
variable {P:Program} {ops:Array Oper} {rest:List Oper} {o:Oper} {a:Act} {Q:Exit→Act→World→Prop}
theorem X4 {w0 W:World} (base:Nat) (hgd:o.guard=none) (s x:Operand) (t e:TypeId) (z:Value) (size bytes:Nat)
  (ho:o.op = .call { callee:=.builtin .append,args:=#[s,x],argTypes:=#[t,t] })
  (ht:P.underlying t=some (.slice e)) (hinfo:(P.info? e).map (fun i=>(i.zero,i.size,i.bytes))=some (some z,size,bytes)) (hz:z.cells.size=size) (hs0:0<size) (hb0:0<bytes)
  (v:Value) (n:Nat) (xs ys:List Value) (hs:a.eval s=v) (hx:a.eval x = .slice (some ⟨W.heap.size,0,none⟩) 1 1) (hys:ys.length=size) (h1:∀ u∈ys,u.oneCell'=true)
  (HO:W.ownsRow base e size v n xs) (HB:Below base w0 W) (hbase:base≤W.heap.size) (hl:(n+1)*bytes≤140737488355328)
  (h:∀ v1 w1,w1.ownsRow base e size v1 (n+1) (xs++ys)→Below base w0 w1→W.grownBy w1 v.ownBlock→(v1.ownBlock=v.ownBlock ∨ ∃ b,v1.ownBlock=some b∧W.heap.size≤b)→wpList P ops Q rest (a.put o.dst v1) w1) :
  wpList P ops Q (o::rest) a (W.alloc (.cells ys.toArray e)):=by
 obtain ⟨i0,hi,hzz⟩:=Option.map_eq_some_iff.1 hinfo
 simp only [Prod.mk.injEq] at hzz
 obtain ⟨hz0,hz1,hz2⟩:=hzz
 have hlen:n+1≤140737488355328:=Nat.le_trans (Nat.le_mul_of_pos_right _ hb0) hl
 refine wpList_append_own_at (W.alloc (.cells ys.toArray e)) hgd s x t ho base e i0 z size bytes ht hi hz0 hz1 hz2 hz hs0 v n xs hs (HO.alloc _) ⟨W.heap.size,0,none⟩ 1 1 ys hx (by rw [hys];simp)
  (by simpa using World.news_of_block (cs:=ys.toArray) (t:=e) (fr:=(0,0)) (heap_alloc_new W (.cells ys.toArray e))) h1 (by simp only [maxLen];omega) hl (by simp;omega) ?_
 intro v1 w1 hown hg _ hat
 refine h v1 w1 hown ((HB.alloc hbase _).grown hg (by simp;omega) (XY HO)) (World.grownBy.trans (World.grownBy_alloc W _ _) hg) ?_
 rcases hat with hat|hat
 ·
  exact .inl hat
 exact .inr ⟨_,hat,by simp⟩
end
theorem qoX {w:World} {base:Nat} {e t:TypeId} {size n g:Nat} {v:Value} {xs:List Value} {cs:Array Value} (h:w.ownsRow base e size v n xs) (hg:w.heap[g]? = some (.cells cs t (0,0))) (hne:e≠t):some g≠v.ownBlock:=by
 rcases h.2 with ⟨rfl,_⟩|⟨g',cap,cur,rfl,_,hh,_⟩
 ·
  simp [Value.ownBlock]
 intro he
 have:g=g':=by simpa [Value.ownBlock] using he
 subst this
 rw [hg] at hh
 injection hh with hh
 injection hh with _ ht
 exact hne ht.symm
theorem qhq {w:World} {g:Nat} {t:TypeId} {cs:Array Value} (h:w.heap[g]? = some (.cells cs t (0,0))) (i:Nat) (u:Value):(w.setCell ⟨g,i,none⟩ u).heap[g]? = some (.cells (cs.setIfInBounds i u) t (0,0)):=by
 simp [World.setCell,Array.getElem?_modify,h]
theorem Qm {w:World} {g:Nat} {t:TypeId} {cs:Array Value} (h:w.heap[g]? = some (.cells cs t (0,0))) {p:Addr} (hp:g≠p.block) (u:Value):(w.setCell p u).heap[g]? = some (.cells cs t (0,0)):=(Below.heap_setCell w p u g hp).trans h
theorem QL {w:World} {g:Nat} {o:Obj} (h:w.heap[g]? = some o):g<w.heap.size:=(Array.getElem?_eq_some_iff.1 h).1
theorem Q8 {w:World} {g:Nat} {t:TypeId} {cs:Array Value} (h:w.heap[g]? = some (.cells cs t (0,0))) (i:Nat):w.cell? ⟨g,i,none⟩=cs[i]?:=cell_of_row w g i cs t (0,0) h
theorem Q9 {w:World} {g:Nat} {t:TypeId} {cs:Array Value} (h:w.heap[g]? = some (.cells cs t (0,0))) (i:Nat):w.frozen? ⟨g,i,none⟩=false:=by simp [World.frozen?,h]
theorem JG {w w1:World} {g:Nat} {o:Obj} {row:Option Nat} (h:w.heap[g]? = some o) (hg:w.grownBy w1 row) (hne:some g≠row):w1.heap[g]? = some o:=(hg.block g (QL h) hne).trans h
def qkU (w w':World) (g:Nat) (row:Option Nat):Prop:=w.heap.size≤w'.heap.size ∧ ∀ i,i<w.heap.size→i≠g→some i≠row→w'.heap[i]? = w.heap[i]?
def Ev {α:Type} (g:Nat→Option α) (r:α):Prop:=∃ K,∀ k,K≤k→g k=some r
theorem Ev.now {α:Type} (r:α):Ev (fun _=>some r) r:=⟨0,fun _ _=>rfl⟩
theorem Ev.rounds {α:Type} {g:Nat→Option α} {r:α} (h:Ev g r):∃ k,g k=some r:=by
 obtain ⟨K,h⟩:=h
 exact ⟨K,h K (Nat.le_refl _)⟩
theorem Ev.bind {α β:Type} {g:Nat→Option α} {f:Nat→α→Option β} {a:α} {r:β} (h:Ev g a) (k:Ev (fun n=>f n a) r):Ev (fun n=>(g n).bind (f n)) r:=by
 obtain ⟨K,h⟩:=h
 obtain ⟨K',k⟩:=k
 refine ⟨max K K',fun n hn => ?_⟩
 have h1:=h n (by omega)
 have h2:=k n (by omega)
 simp only [h1,Option.bind_some]
 exact h2
theorem Ev.step {α:Type} {g f:Nat→Option α} {r:α} (h:∀ k,g (k+1)=f k) (k:Ev f r):Ev g r:=by
 obtain ⟨K,k⟩:=k
 refine ⟨K+1,fun n hn => ?_⟩
 obtain ⟨m,rfl⟩:∃ m,n=m+1:=⟨n-1,by omega⟩
 rw [h]
 exact k m (by omega)
theorem Ev.congr {α:Type} {g f:Nat→Option α} {r:α} (h:∀ k,g k=f k) (k:Ev f r):Ev g r:=by
 obtain ⟨K,k⟩:=k
 exact ⟨K,fun n hn=>(h n).trans (k n hn)⟩
section
variable {P:Program} {ops:Array Oper} {o:Oper} {a:Act} {Q:Exit→Act→World→Prop} {K:Act→World→Prop}
theorem qaf {w0 W:World} (base:Nat) (hw:Region.wanted o (yielded ops a.tmps)=true) (s x:Operand) (t e:TypeId) (z:Value) (size bytes:Nat)
  (ho:o.op = .call { callee:=.builtin .append,args:=#[s,x],argTypes:=#[t,t] })
  (ht:P.underlying t=some (.slice e)) (hinfo:(P.info? e).map (fun i=>(i.zero,i.size,i.bytes))=some (some z,size,bytes)) (hz:z.cells.size=size) (hs0:0<size) (hb0:0<bytes)
  (v:Value) (n:Nat) (xs ys:List Value) (hs:a.eval s=v) (hx:a.eval x = .slice (some ⟨W.heap.size,0,none⟩) 1 1) (hys:ys.length=size) (h1:∀ u∈ys,u.oneCell'=true)
  (HO:W.ownsRow base e size v n xs) (HB:Below base w0 W) (hbase:base≤W.heap.size) (hl:(n+1)*bytes≤140737488355328)
  (h:∀ v1 w1,w1.ownsRow base e size v1 (n+1) (xs++ys)→Below base w0 w1→W.grownBy w1 v.ownBlock→(v1.ownBlock=v.ownBlock ∨ ∃ b,v1.ownBlock=some b∧W.heap.size≤b)→K (a.put o.dst v1) w1) :
  if Region.wanted o (yielded ops a.tmps)=true then Oper.wp P o a (W.alloc (.cells ys.toArray e)) K Q else K (a.put o.dst undef) (W.alloc (.cells ys.toArray e)):=by
 obtain ⟨i0,hi,hzz⟩:=Option.map_eq_some_iff.1 hinfo
 simp only [Prod.mk.injEq] at hzz
 obtain ⟨hz0,hz1,hz2⟩:=hzz
 have hlen:n+1≤140737488355328:=Nat.le_trans (Nat.le_mul_of_pos_right _ hb0) hl
 rw [if_pos hw]
 obtain ⟨v1,w1,hr,hown,hg,_,hat⟩:=run_append_own_at (P:=P) (W.alloc (.cells ys.toArray e)) base t o.type e i0 z size bytes ht hi hz0 hz1 hz2 hz hs0 v n xs (HO.alloc _) ⟨W.heap.size,0,none⟩ 1 1 ys (by rw [hys];simp)
  (by simpa using World.news_of_block (cs:=ys.toArray) (t:=e) (fr:=(0,0)) (heap_alloc_new W (.cells ys.toArray e))) h1 (by simp only [maxLen];omega) hl (by simp;omega)
 unfold Oper.wp execOp
 simp only [ho,resolve,invoke,builtin,Sem.run_bind,Sem.run_pure,Result.andThen_ok,List.map_toArray,List.map_cons,List.map_nil,hs,hx,hr]
 refine h v1 w1 hown ((HB.alloc hbase _).grown hg (by simp;omega) (XY HO)) (World.grownBy.trans (World.grownBy_alloc W _ _) hg) ?_
 rcases hat with hat|hat
 ·
  exact .inl hat
 exact .inr ⟨_,hat,by simp⟩
end
theorem X1 {w:World} {base base':Nat} {e:TypeId} {size n:Nat} {v:Value} {xs:List Value} (h:w.ownsRow base e size v n xs) (hb:base'≤base):w.ownsRow base' e size v n xs:=by
 obtain ⟨h1,h2⟩:=h
 refine ⟨h1,?_⟩
 rcases h2 with h2|⟨g,cap,cur,rfl,hg,r⟩
 ·
  exact .inl h2
 exact .inr ⟨g,cap,cur,rfl,Nat.le_trans hb hg,r⟩
section
variable {α:Type} {enc:α→Value} {d:α}
def encs (enc:α→Value) (xs:List α):List Value:=xs.map enc
def rdOf (d:α) (xs:List α) (i:Int):α:=xs.getD i.toNat d
theorem qaN (xs:List α):(encs enc xs).length=xs.length:=by simp [encs]
def GQ (enc:α→Value) (d:α) (w:World) (A:Option Addr) (n:Nat) (xs:List α):Prop :=
 xs.length=n∧n≤9223372036854775807∧(0<n → ∃ ad,A=some ad ∧ ∀ j,j<n→w.cell? (ad.add j)=some (enc (xs.getD j d)))
theorem GQ.at_ {w:World} {A:Option Addr} {n:Nat} {xs:List α} (h:GQ enc d w A n xs) (i:Int) (h0:0≤i) (h1:i<n):∃ ad,A=some ad∧w.cell? (ad.add i.toNat)=some (enc (rdOf d xs i)):=by
 obtain ⟨ad,e,hc⟩:=h.2.2 (by omega)
 exact ⟨ad,e,hc _ (by omega)⟩
theorem GQ.drop_ {w:World} {A:Option Addr} {n c:Nat} {xs:List α} (h:GQ enc d w A n xs) (i:Nat) (hi:i≤n) (hc:n≤c):GQ enc d w (if c=i then A else A.map (·.add i)) (n-i) (xs.drop i):=by
 refine ⟨by rw [List.length_drop,h.1],by have:=h.2.1;omega,fun hp => ?_⟩
 obtain ⟨ad,rfl,hcell⟩:=h.2.2 (by omega)
 rw [if_neg (by omega)]
 refine ⟨ad.add i,rfl,fun j hj => ?_⟩
 have ha:(ad.add i).add j=ad.add (i+j):=by
  unfold Addr.add
  by_cases h1:i=0<;>by_cases h2:j=0<;>simp [h1,h2,Nat.add_assoc]
 rw [ha,hcell (i+j) (by omega)]
 simp [List.getD_eq_getElem?_getD,List.getElem?_drop]
theorem qdL {P:Program} (enc:α→Value) (d:α) (t e:TypeId) (kl:IntKind) {i:TypeInfo} (ht:P.underlying t=some (.slice e)) (hi:P.info? e=some i) (hsz:i.size=1) (A:Option Addr) (n c m:Nat) (hm:m≤n) :
  ∃ A':Option Addr,(∀ W:World,(Instr.slice t (.slice A n c) (some (.int kl (m:Int))) none none).run P W = .ok (.slice A' (n-m) (c-m)) W) ∧
   ∀ (w:World) (xs:List α),n≤c→GQ enc d w A n xs→GQ enc d w A' (n-m) (xs.drop m):=by
 refine ⟨if c=m then A else A.map (·.add m),fun W => ?_,fun w xs hc h=>h.drop_ m hm hc⟩
 have hel:P.elem t=e:=by simp [Program.elem,ht]
 have hu:P.underlying t=some (.slice (P.elem t)):=by rw [hel];exact ht
 rw [run_slice_l W t A n c hu kl (m:Int) (Int.natCast_nonneg _) (by omega),hel]
 simp [sizeOf,typeInfo,hi,hsz,sliced,Result.andThen]
theorem qdK {W:World} {base g n cap:Nat} {e:TypeId} {xs:List α} (h:W.ownsRow base e 1 (.slice (some ⟨g,0,none⟩) n cap) n (encs enc xs)) (i:Int) (x:α) :
  (W.setCell ⟨g,i.toNat,none⟩ (enc x)).ownsRow base e 1 (.slice (some ⟨g,0,none⟩) n cap) n (encs enc (xs.set i.toNat x))∧W.grownBy (W.setCell ⟨g,i.toNat,none⟩ (enc x)) (some g):=by
 have hs:=h.stored i.toNat (enc x)
 have he:(encs enc xs).set i.toNat (enc x)=encs enc (xs.set i.toNat x):=by simp [encs,List.map_set]
 rwa [he] at hs
end
theorem Q3 {w:World} {g:Nat} {o:Obj} (h:w.heap[g]? = some o) (o':Obj):(w.alloc o').heap[g]? = some o:=(Below.heap_alloc w o' g (QL h)).trans h
theorem Q6 {w:World} {g:Nat} {o:Obj} (h:w.heap[g]? = some o):w.drew.heap[g]? = some o:=h
theorem Q4 {w:World} {g:Nat} {o:Obj} (h:w.heap[g]? = some o) (n:Nat):(w.drewN n).heap[g]? = some o:=h
theorem Qf {w w1:World} {g:Nat} {o:Obj} (h:w.heap[g]? = some o) (hb:Below w.heap.size w w1):w1.heap[g]? = some o:=(hb.block g (QL h)).trans h
theorem OH (w:World) (o:Obj):(w.alloc o).heap[w.heap.size]? = some o:=heap_alloc_new w o
section
variable {P:Program}
theorem X7 {fn:Func} {p u:Tmp} {ty:TypeId} (h:fn.results=#[.cell p ty,.tmp u]) (tmps:Array Value) (w:World) (g:Nat) (t:TypeId) (cs:Array Value) (fr:Nat × Nat) (d:TypeDesc)
  (hp:tmps.getD p undef = .pointer (some ⟨g,0,none⟩)) (hg:w.heap[g]? = some (.cells cs t fr))
  (hu:P.underlying ty=some d) (hd:(match d with | .struct _ | .array _ _=>true|_=>false)=true) (hi:(P.info? ty).map (·.size)=some cs.size) :
  (results fn tmps).run P w = .ok (.tuple #[.agg cs,tmps.getD u undef]) w:=by
 have hp':tmps[p]?.getD undef = .pointer (some ⟨g,0,none⟩):=by simpa using hp
 simp [results,h,hp',asAddr,run_loadVar_row w g t ty cs fr d hg hu hd hi]
theorem qgQ {fn:Func} {p u:Tmp} {ty:TypeId} (h:fn.results=#[.tmp u,.cell p ty]) (tmps:Array Value) (w:World) (g:Nat) (t:TypeId) (cs:Array Value) (fr:Nat × Nat) (d:TypeDesc)
  (hp:tmps.getD p undef = .pointer (some ⟨g,0,none⟩)) (hg:w.heap[g]? = some (.cells cs t fr))
  (hu:P.underlying ty=some d) (hd:(match d with | .struct _ | .array _ _=>true|_=>false)=true) (hi:(P.info? ty).map (·.size)=some cs.size) :
  (results fn tmps).run P w = .ok (.tuple #[tmps.getD u undef,.agg cs]) w:=by
 have hp':tmps[p]?.getD undef = .pointer (some ⟨g,0,none⟩):=by simpa using hp
 simp [results,h,hp',asAddr,run_loadVar_row w g t ty cs fr d hg hu hd hi]
end
theorem qoW {w:World} {base n m c size:Nat} {e:TypeId} {A:Option Addr} {xs:List Value} (h:w.ownsRow base e size (.slice A m c) n xs):m≤c:=by
 rcases h.2 with ⟨he,_⟩|⟨g,cap,cur,he,_,_,hnc,_⟩
 ·
  injection he with _ h2 h3
  omega
 injection he with _ h2 h3
 omega
def KS {α:Type} (R:α→List Value→Prop) (e:TypeId) (size:Nat) (w:World) (base:Nat) (v:Value) (ps:List α):Prop :=
 ∃ inner,w.ownsRow base e size v ps.length inner∧Reps R size ps inner
section
variable {α:Type} {R R':α→List Value→Prop} {e:TypeId} {size:Nat} {w w1:World} {base:Nat} {v:Value} {ps:List α}
theorem KS.none_ (R:α→List Value→Prop) (e:TypeId) (size:Nat) (w:World) (base:Nat):KS R e size w base (.slice none 0 0) []:=⟨[],qmD _ _ _ _,Reps.none _ _⟩
theorem KS.imp_ (h:KS R e size w base v ps) (hR:∀ p c,R p c→R' p c):KS R' e size w base v ps:=by
 obtain ⟨inner,ho,hr⟩:=h
 exact ⟨inner,ho,hr.imp_ hR⟩
theorem KS.reads (h:KS R e size w base v ps):∃ A c,v = .slice A ps.length c∧ps.length≤c∧GL R size w A ps.length ps:=by
 obtain ⟨inner,ho,hr⟩:=h
 obtain ⟨A,c,rfl,hrow⟩:=qco ho hr rfl
 exact ⟨A,c,rfl,qoW ho,hrow⟩
theorem KS.ne_block (h:KS R e size w base v ps) {g:Nat} {t:TypeId} {cells:Array Value} (hb:w.heap[g]? = some (.cells cells t (0,0))) (ht:e≠t):some g≠v.ownBlock:=by
 obtain ⟨inner,ho,hr⟩:=h
 exact qoX ho hb ht
end
section
variable {α:Type} {P:Program}
theorem WS (enc:α→Value) (d:α) (t e:TypeId) (kl:IntKind) {i:TypeInfo} (ht:P.underlying t=some (.slice e)) (hi:P.info? e=some i) (hsz:i.size=1) (A:Option Addr) (c:Nat) (xs:List α) (j:Int) (h0:0≤j) (hm:j≤xs.length) (hc:xs.length≤c) :
  ∃ A':Option Addr,(∀ W:World,(Instr.slice t (.slice A xs.length c) (some (.int kl j)) none none).run P W = .ok (.slice A' (xs.drop j.toNat).length (c-j.toNat)) W) ∧
   (∀ w:World,GQ enc d w A xs.length xs→GQ enc d w A' (xs.drop j.toNat).length (xs.drop j.toNat))∧(xs.drop j.toNat).length≤c-j.toNat:=by
 obtain ⟨m,rfl⟩:=Int.eq_ofNat_of_zero_le h0
 simp only [Int.toNat_natCast]
 have hmn:m≤xs.length:=by omega
 obtain ⟨A',h1,h2⟩:=qdL (P:=P) enc d t e kl ht hi hsz A xs.length c m hmn
 have hl:(xs.drop m).length=xs.length-m:=List.length_drop
 exact ⟨A',fun W=>by rw [hl];exact h1 W,fun w h=>by rw [hl];exact h2 w xs hc h,by rw [hl];omega⟩
end
structure Kd (α:Type) where
 sz:Nat
 E:List Nat
 K:World→α→List Value→Prop
 M:World→Nat→(Nat→Prop)→α→List Value→Prop
 K_len:∀ {w x cs},K w x cs→cs.length=sz
 K_one:∀ {w x cs},K w x cs → ∀ u∈cs,u.oneCell'=true
 K_below:∀ {w w1:World} {x cs},Below w.heap.size w w1→K w x cs→K w1 x cs
 K_of_M:∀ {w base ok x cs},M w base ok x cs→K w x cs
 M_mono:∀ {w base ok ok' x cs},(∀ k,ok k→ok' k)→M w base ok x cs→M w base ok' x cs
 M_bound:∀ {w:World} {base ok x cs},M w base ok x cs→M w base (fun k=>ok k∧base≤k∧k<w.heap.size ∧ ∃ q,q∈E ∧ ∃ cells,w.heap[k]? = some (.cells cells q (0,0))) x cs
 M_move:∀ {w w1:World} {base ok x cs},(∀ k,ok k→w1.heap[k]? = w.heap[k]?)→M w base ok x cs→M w1 base ok x cs
 M_lower:∀ {w base base' ok x cs},base'≤base→M w base ok x cs→M w base' ok x cs
theorem qkc {w w1:World} {base:Nat} {e:TypeId} {size n:Nat} {v:Value} {xs:List Value} (h:w.ownsRow base e size v n xs) (hm:∀ k,v.ownBlock=some k→w1.heap[k]? = w.heap[k]?):w1.ownsRow base e size v n xs:=by
 obtain ⟨h1,h2⟩:=h
 refine ⟨h1,?_⟩
 rcases h2 with h2|⟨g,cap,cur,rfl,hg,hh,r⟩
 ·
  exact .inl h2
 exact .inr ⟨g,cap,cur,rfl,hg,(hm g (by simp [Value.ownBlock])).trans hh,r⟩
theorem KU {w:World} {base:Nat} {e:TypeId} {size n:Nat} {v:Value} {xs:List Value} (h:w.ownsRow base e size v n xs) (k:Nat) (hk:v.ownBlock=some k):∃ cells,w.heap[k]? = some (.cells cells e (0,0)):=by
 rcases h.2 with ⟨rfl,_⟩|⟨g,cap,cur,rfl,hg,hh,r⟩
 ·
  simp [Value.ownBlock] at hk
 have:g=k:=by simpa [Value.ownBlock] using hk
 subst this
 exact ⟨cur,hh⟩
namespace Kd
def C {α:Type} (d:Kd α) (w:World) (A:Option Addr) (n:Nat) (xs:List α):Prop:=GL (d.K w) d.sz w A n xs
def R {α:Type} (d:Kd α) (e:Nat) (w:World) (base:Nat) (ok:Nat→Prop) (v:Value) (xs:List α):Prop :=
 (∀ k,v.ownBlock=some k→ok k)∧KS (d.M w base (fun k=>ok k∧some k≠v.ownBlock)) e d.sz w base v xs
section
variable {α:Type} {d:Kd α} {e:Nat} {w w1:World} {base:Nat} {ok ok':Nat→Prop} {v:Value} {xs:List α}
theorem C_below {A:Option Addr} {n:Nat} (h:d.C w A n xs) (hb:Below w.heap.size w w1):d.C w1 A n xs:=GL.imp_ h hb (fun _ _ hp=>d.K_below hb hp)
theorem R_nil (d:Kd α) (e:Nat) (w:World) (base:Nat) (ok:Nat→Prop):d.R e w base ok (.slice none 0 0) []:=⟨fun k hk=>by simp [Value.ownBlock] at hk,KS.none_ _ _ _ _ _⟩
theorem R_mono (h:d.R e w base ok v xs) (hok:∀ k,ok k→ok' k):d.R e w base ok' v xs:=⟨fun k hk=>hok k (h.1 k hk),h.2.imp_ (fun _ _ hp=>d.M_mono (fun k hk=>⟨hok k hk.1,hk.2⟩) hp)⟩
theorem R_bound (h:d.R e w base ok v xs):d.R e w base (fun k=>ok k∧base≤k∧k<w.heap.size ∧ ∃ q,q∈e::d.E ∧ ∃ cells,w.heap[k]? = some (.cells cells q (0,0))) v xs:=by
 obtain ⟨h0,inner,ho,hr⟩:=h
 refine ⟨fun k hk => ?_,inner,ho,hr.imp_ (fun _ _ hp=>d.M_mono (fun k hk => ?_) (d.M_bound hp))⟩
 ·
  obtain ⟨cells,hc⟩:=KU ho k hk
  exact ⟨h0 k hk,XY ho k hk,qkb ho k hk,e,List.mem_cons_self,cells,hc⟩
 obtain ⟨⟨h1,h2⟩,h3,h4,q,hq,hc⟩:=hk
 exact ⟨⟨h1,h3,h4,q,List.mem_cons_of_mem _ hq,hc⟩,h2⟩
theorem R_move (h:d.R e w base ok v xs) (hm:∀ k,ok k→w1.heap[k]? = w.heap[k]?):d.R e w1 base ok v xs:=by
 obtain ⟨h0,inner,ho,hr⟩:=h
 exact ⟨h0,inner,qkc ho (fun k hk=>hm k (h0 k hk)),hr.imp_ (fun _ _ hp=>d.M_move (fun k hk=>hm k hk.1) hp)⟩
theorem R_lower {base':Nat} (h:d.R e w base ok v xs) (hb:base'≤base):d.R e w base' ok v xs:=by
 obtain ⟨h0,inner,ho,hr⟩:=h
 exact ⟨h0,inner,X1 ho hb,hr.imp_ (fun _ _ hp=>d.M_lower hb hp)⟩
theorem qbP (h:d.R e w base ok v xs) (hm:∀ k,ok k→k<w.heap.size→w1.heap[k]? = w.heap[k]?):d.R e w1 base ok v xs :=
 R_mono (R_move (R_bound h) (fun k hk=>hm k hk.1 hk.2.2.1)) (fun _ hk=>hk.1)
theorem qji {x:α} {cs:List Value} (h:d.M w base ok x cs) (hm:∀ k,ok k→k<w.heap.size→w1.heap[k]? = w.heap[k]?):d.M w1 base ok x cs :=
 d.M_mono (fun _ hk=>hk.1) (d.M_move (fun k hk=>hm k hk.1 hk.2.2.1) (d.M_bound h))
theorem R_below (h:d.R e w base ok v xs) (hb:Below w.heap.size w w1):d.R e w1 base ok v xs:=qbP h (fun k _ hk=>hb.block k hk)
theorem qkV {x:α} {cs:List Value} (h:d.M w base ok x cs) (hb:Below w.heap.size w w1):d.M w1 base ok x cs:=qji h (fun k _ hk=>hb.block k hk)
theorem R_far (h:d.R e w base ok v xs) {p:Addr} (hok:∀ k,ok k→k≠p.block) (u:Value):d.R e (w.setCell p u) base ok v xs:=qbP h (fun k ho _=>Below.heap_setCell w p u k (hok k ho))
theorem R_types (h:d.R e w base ok v xs) {g t:Nat} {cells:Array Value} (hb:w.heap[g]? = some (.cells cells t (0,0))) (ht:∀ q,q∈e::d.E→q≠t):d.R e w base (fun k=>ok k∧k≠g) v xs :=
 R_mono (R_bound h) (fun k hk=>⟨hk.1,by
  obtain ⟨_,_,_,q,hq,cells',hc⟩:=hk
  rintro rfl
  rw [hc] at hb
  injection hb with hb
  injection hb with _ hb
  exact ht q hq hb⟩)
theorem R_reads (h:d.R e w base ok v xs):∃ A c,v = .slice A xs.length c∧xs.length≤c∧d.C w A xs.length xs:=by
 obtain ⟨A,c,he,hl,hr⟩:=KS.reads h.2
 exact ⟨A,c,he,hl,hr.imp_ (Below.refl _ _) (fun _ _ hp=>d.K_of_M hp)⟩
theorem R_slice (h:d.R e w base ok v xs):∃ A c,v = .slice A xs.length c:=by
 obtain ⟨A,c,he,_⟩:=R_reads h
 exact ⟨A,c,he⟩
theorem qhm (h:d.R e w base ok v xs):∃ inner,w.ownsRow base e d.sz v xs.length inner:=by
 obtain ⟨_,inner,ho,_⟩:=h
 exact ⟨inner,ho⟩
theorem R_ne (h:d.R e w base ok v xs) {g t:Nat} {cells:Array Value} (hb:w.heap[g]? = some (.cells cells t (0,0))) (ht:e≠t):some g≠v.ownBlock:=KS.ne_block h.2 hb ht
end
def scalar {α:Type} (enc:α→Value) (h1:∀ x,(enc x).oneCell'=true):Kd α where
 sz:=1
 E:=[]
 K:=fun _ x cs=>cs=[enc x]
 M:=fun _ _ _ x cs=>cs=[enc x]
 K_len:=fun h=>by rw [h];rfl
 K_one:=fun h u hu=>by
  rw [h] at hu
  rw [List.mem_singleton.1 hu]
  exact h1 _
 K_below:=fun _ h=>h
 K_of_M:=fun h=>h
 M_mono:=fun _ h=>h
 M_bound:=fun h=>h
 M_move:=fun _ h=>h
 M_lower:=fun _ h=>h
def int (k:IntKind):Kd Int:=scalar (Value.int k) (fun _=>rfl)
def bool:Kd Bool:=scalar Value.bool (fun _=>rfl)
def string:Kd ByteArray:=scalar Value.string (fun _=>rfl)
def slice {α:Type} (e:Nat) (d:Kd α):Kd (List α) where
 sz:=1
 E:=e::d.E
 K:=fun w xs cs => ∃ A c,cs=[.slice A xs.length c]∧xs.length≤c∧d.C w A xs.length xs
 M:=fun w base ok xs cs => ∃ v,cs=[v]∧d.R e w base ok v xs
 K_len:=by
  rintro w x cs ⟨A,c,rfl,_⟩
  rfl
 K_one:=by
  rintro w x cs ⟨A,c,rfl,_⟩ u hu
  rw [List.mem_singleton.1 hu]
  rfl
 K_below:=by
  rintro w w1 x cs hb ⟨A,c,rfl,hl,hr⟩
  exact ⟨A,c,rfl,hl,C_below hr hb⟩
 K_of_M:=by
  rintro w base ok x cs ⟨v,rfl,h⟩
  obtain ⟨A,c,rfl,hl,hr⟩:=R_reads h
  exact ⟨A,c,rfl,hl,hr⟩
 M_mono:=by
  rintro w base ok ok' x cs hok ⟨v,rfl,h⟩
  exact ⟨v,rfl,R_mono h hok⟩
 M_bound:=by
  rintro w base ok x cs ⟨v,rfl,h⟩
  exact ⟨v,rfl,R_bound h⟩
 M_move:=by
  rintro w w1 base ok x cs hm ⟨v,rfl,h⟩
  exact ⟨v,rfl,R_move h hm⟩
 M_lower:=by
  rintro w base base' ok x cs hb ⟨v,rfl,h⟩
  exact ⟨v,rfl,R_lower h hb⟩
def pair {α β:Type} (a:Kd α) (b:Kd β):Kd (α × β) where
 sz:=a.sz+b.sz
 E:=a.E++b.E
 K:=fun w x cs => ∃ c0 c1,cs=c0++c1∧a.K w x.1 c0∧b.K w x.2 c1
 M:=fun w base ok x cs => ∃ c0 c1,cs=c0++c1∧a.M w base ok x.1 c0∧b.M w base ok x.2 c1
 K_len:=by
  rintro w x cs ⟨c0,c1,rfl,h0,h1⟩
  rw [List.length_append,a.K_len h0,b.K_len h1]
 K_one:=by
  rintro w x cs ⟨c0,c1,rfl,h0,h1⟩ u hu
  rcases List.mem_append.1 hu with hu|hu
  ·
   exact a.K_one h0 u hu
  exact b.K_one h1 u hu
 K_below:=by
  rintro w w1 x cs hb ⟨c0,c1,rfl,h0,h1⟩
  exact ⟨c0,c1,rfl,a.K_below hb h0,b.K_below hb h1⟩
 K_of_M:=by
  rintro w base ok x cs ⟨c0,c1,rfl,h0,h1⟩
  exact ⟨c0,c1,rfl,a.K_of_M h0,b.K_of_M h1⟩
 M_mono:=by
  rintro w base ok ok' x cs hok ⟨c0,c1,rfl,h0,h1⟩
  exact ⟨c0,c1,rfl,a.M_mono hok h0,b.M_mono hok h1⟩
 M_bound:=by
  rintro w base ok x cs ⟨c0,c1,rfl,h0,h1⟩
  refine ⟨c0,c1,rfl,a.M_mono ?_ (a.M_bound h0),b.M_mono ?_ (b.M_bound h1)⟩
  ·
   rintro k ⟨h2,h3,h4,q,hq,hc⟩
   exact ⟨h2,h3,h4,q,List.mem_append_left _ hq,hc⟩
  rintro k ⟨h2,h3,h4,q,hq,hc⟩
  exact ⟨h2,h3,h4,q,List.mem_append_right _ hq,hc⟩
 M_move:=by
  rintro w w1 base ok x cs hm ⟨c0,c1,rfl,h0,h1⟩
  exact ⟨c0,c1,rfl,a.M_move hm h0,b.M_move hm h1⟩
 M_lower:=by
  rintro w base base' ok x cs hb ⟨c0,c1,rfl,h0,h1⟩
  exact ⟨c0,c1,rfl,a.M_lower hb h0,b.M_lower hb h1⟩
def iso {α β:Type} (d:Kd α) (f:β→α):Kd β where
 sz:=d.sz
 E:=d.E
 K:=fun w x cs=>d.K w (f x) cs
 M:=fun w base ok x cs=>d.M w base ok (f x) cs
 K_len:=d.K_len
 K_one:=d.K_one
 K_below:=d.K_below
 K_of_M:=d.K_of_M
 M_mono:=d.M_mono
 M_bound:=d.M_bound
 M_move:=d.M_move
 M_lower:=d.M_lower
theorem C_get {α:Type} {d:Kd α} {w:World} {A:Option Addr} {n:Nat} {xs:List α} (h:d.C w A n xs) (z:α) (i:Int) (h0:0≤i) (h1:i<n) :
  ∃ ad c,A=some ad∧c.length=d.sz∧d.K w (xs.getD i.toNat z) c ∧ ∀ j u,c[j]? = some u→w.cell? (ad.add (i.toNat*d.sz+j))=some u:=GL.get_ h z i h0 h1
theorem qbO {α:Type} {d:Kd α} {e base:Nat} {ok okp:Nat→Prop} {W w1:World} {v v1:Value} {xs:List α} {p:α} {inner cs:List Value} (h0:∀ k,v.ownBlock=some k→ok k) (hr:Reps (d.M W base (fun k=>ok k∧some k≠v.ownBlock)) d.sz xs inner) (hp:d.M W base okp p cs) (hokp:∀ k,okp k→ok k∧some k≠v.ownBlock) (hfresh:∀ k,W.heap.size≤k→ok k)
  (hown:w1.ownsRow base e d.sz v1 (xs.length+1) (inner++cs)) (hg:W.grownBy w1 v.ownBlock) (hat:v1.ownBlock=v.ownBlock ∨ ∃ b,v1.ownBlock=some b∧W.heap.size≤b):d.R e w1 base ok v1 (xs++[p]):=by
 have hne:∀ k,some k≠v.ownBlock→k<W.heap.size→some k≠v1.ownBlock:=by
  intro k hk hlt
  rcases hat with hat|⟨b,hb,hle⟩
  ·
   rw [hat];exact hk
  rw [hb]
  intro he
  injection he with he
  omega
 have step:∀ {q:α} {c:List Value} {o:Nat→Prop},d.M W base o q c→(∀ k,o k→ok k∧some k≠v.ownBlock)→d.M w1 base (fun k=>ok k∧some k≠v1.ownBlock) q c:=by
  intro q c o hq ho
  have h1:=d.M_move (w1:=w1) (fun k hk=>hg.block k hk.2.2.1 (ho k hk.1).2) (d.M_bound hq)
  exact d.M_mono (fun k hk=>⟨(ho k hk.1).1,hne k (ho k hk.1).2 hk.2.2.1⟩) h1
 refine ⟨fun k hk => ?_,inner++cs,by rw [List.length_append,List.length_singleton];exact hown,?_⟩
 ·
  rcases hat with hat|⟨b,hb,hle⟩
  ·
   exact h0 k (hat ▸ hk)
  rw [hb] at hk
  injection hk with hk
  exact hfresh k (by omega)
 exact (hr.imp_ (fun _ _ hq=>step hq (fun _ hk=>hk))).snoc (step hp hokp) (d.K_len (d.K_of_M hp))
section
variable {P:Program} {ops:Array Oper} {rest:List Oper} {o:Oper} {a:Act} {Q:Exit→Act→World→Prop} {α:Type}
theorem R_append (d:Kd α) {w0 W:World} (base:Nat) (hgd:o.guard=none) (s x:Operand) (t e:TypeId) (z:Value) (bytes:Nat)
  (ho:o.op = .call { callee:=.builtin .append,args:=#[s,x],argTypes:=#[t,t] })
  (ht:P.underlying t=some (.slice e)) (hinfo:(P.info? e).map (fun i=>(i.zero,i.size,i.bytes))=some (some z,d.sz,bytes)) (hz:z.cells.size=d.sz) (hs0:0<d.sz) (hb0:0<bytes)
  (v:Value) (xs:List α) (p:α) (cs:List Value) (ok okp:Nat→Prop) (hs:a.eval s=v) (hx:a.eval x = .slice (some ⟨W.heap.size,0,none⟩) 1 1) (hp:d.M W base okp p cs) (hokp:∀ k,okp k→ok k∧some k≠v.ownBlock) (hfresh:∀ k,W.heap.size≤k→ok k)
  (HO:d.R e W base ok v xs) (HB:Below base w0 W) (hbase:base≤W.heap.size) (hl:(xs.length+1)*bytes≤140737488355328)
  (h:∀ v1 w1,d.R e w1 base ok v1 (xs++[p])→Below base w0 w1→W.grownBy w1 v.ownBlock→(v1.ownBlock=v.ownBlock ∨ ∃ b,v1.ownBlock=some b∧W.heap.size≤b)→wpList P ops Q rest (a.put o.dst v1) w1) :
  wpList P ops Q (o::rest) a (W.alloc (.cells cs.toArray e)):=by
 obtain ⟨h0,inner,hown,hr⟩:=HO
 refine X4 base hgd s x t e z d.sz bytes ho ht hinfo hz hs0 hb0 v xs.length inner cs hs hx (d.K_len (d.K_of_M hp)) (d.K_one (d.K_of_M hp)) hown HB hbase hl ?_
 intro v1 w1 hown1 hb1 hg1 qf3
 exact h v1 w1 (qbO h0 hr hp hokp hfresh hown1 hg1 qf3) hb1 hg1 qf3
end
section
variable {P:Program} {ops:Array Oper} {o:Oper} {a:Act} {Q:Exit→Act→World→Prop} {Kc:Act→World→Prop} {α:Type}
theorem R_append_step (d:Kd α) {w0 W:World} (base:Nat) (hw:Region.wanted o (yielded ops a.tmps)=true) (s x:Operand) (t e:TypeId) (z:Value) (bytes:Nat)
  (ho:o.op = .call { callee:=.builtin .append,args:=#[s,x],argTypes:=#[t,t] })
  (ht:P.underlying t=some (.slice e)) (hinfo:(P.info? e).map (fun i=>(i.zero,i.size,i.bytes))=some (some z,d.sz,bytes)) (hz:z.cells.size=d.sz) (hs0:0<d.sz) (hb0:0<bytes)
  (v:Value) (xs:List α) (p:α) (cs:List Value) (ok okp:Nat→Prop) (hs:a.eval s=v) (hx:a.eval x = .slice (some ⟨W.heap.size,0,none⟩) 1 1) (hp:d.M W base okp p cs) (hokp:∀ k,okp k→ok k∧some k≠v.ownBlock) (hfresh:∀ k,W.heap.size≤k→ok k)
  (HO:d.R e W base ok v xs) (HB:Below base w0 W) (hbase:base≤W.heap.size) (hl:(xs.length+1)*bytes≤140737488355328)
  (h:∀ v1 w1,d.R e w1 base ok v1 (xs++[p])→Below base w0 w1→W.grownBy w1 v.ownBlock→(v1.ownBlock=v.ownBlock ∨ ∃ b,v1.ownBlock=some b∧W.heap.size≤b)→Kc (a.put o.dst v1) w1) :
  if Region.wanted o (yielded ops a.tmps)=true then Oper.wp P o a (W.alloc (.cells cs.toArray e)) Kc Q else Kc (a.put o.dst undef) (W.alloc (.cells cs.toArray e)):=by
 obtain ⟨h0,inner,hown,hr⟩:=HO
 refine qaf base hw s x t e z d.sz bytes ho ht hinfo hz hs0 hb0 v xs.length inner cs hs hx (d.K_len (d.K_of_M hp)) (d.K_one (d.K_of_M hp)) hown HB hbase hl ?_
 intro v1 w1 hown1 hb1 hg1 qf3
 exact h v1 w1 (qbO h0 hr hp hokp hfresh hown1 hg1 qf3) hb1 hg1 qf3
end
theorem qfm {α:Type} {enc:α→Value} (xs:List α):Reps (fun (x:α) (cs:List Value)=>cs=[enc x]) 1 xs (encs enc xs):=by
 refine ⟨by simp [encs],fun j p hj => ?_⟩
 obtain ⟨hl,hp⟩:=List.getElem?_eq_some_iff.1 hj
 have hl':j<(encs enc xs).length:=by rw [qaN];exact hl
 rw [Nat.mul_one,List.drop_eq_getElem_cons hl']
 simp [encs,hp]
theorem R_of_own {α:Type} {enc:α→Value} {h1:∀ x,(enc x).oneCell'=true} {e:Nat} {w:World} {base:Nat} {ok:Nat→Prop} {v:Value} {xs:List α} (ho:w.ownsRow base e 1 v xs.length (encs enc xs)) (hok:∀ k,v.ownBlock=some k→ok k):(scalar enc h1).R e w base ok v xs:=⟨hok,encs enc xs,ho,qfm xs⟩
theorem qkd {α:Type} {enc:α→Value} {h1:∀ x,(enc x).oneCell'=true} {e:Nat} {w:World} {base:Nat} {ok:Nat→Prop} {v:Value} {xs:List α} (h:(scalar enc h1).R e w base ok v xs):w.ownsRow base e 1 v xs.length (encs enc xs):=by
 obtain ⟨_,inner,ho,hr⟩:=h
 have:inner=encs enc xs:=by
  apply List.ext_getElem?
  intro j
  rcases Nat.lt_or_ge j xs.length with hj|hj
  ·
   have h2:=hr.2 j _ (List.getElem?_eq_getElem hj)
   have hl:j<inner.length:=by have:=hr.1;simp [scalar] at this;omega
   have h3:(inner.drop (j*1)).take 1=[enc xs[j]]:=h2
   rw [Nat.mul_one,List.drop_eq_getElem_cons hl] at h3
   have h4:inner[j]=enc xs[j]:=by
    have h5:=congrArg List.head? h3;rw [List.take_succ_cons] at h5
    exact Option.some.inj h5
   rw [List.getElem?_eq_getElem hl,h4]
   simp [encs,List.getElem?_eq_getElem hj]
  have h3:inner.length=xs.length:=by have:=hr.1;simp [scalar] at this;omega
  rw [List.getElem?_eq_none (by omega),List.getElem?_eq_none (by rw [qaN];omega)]
 rw [← this]
 exact ho
theorem C_of_reads {α:Type} {enc:α→Value} {d:α} {h1:∀ x,(enc x).oneCell'=true} {w:World} {A:Option Addr} {n:Nat} {xs:List α} (h:GQ enc d w A n xs):(scalar enc h1).C w A n xs:=by
 refine ⟨h.1,h.2.1,fun hn => ?_⟩
 obtain ⟨ad,e,hc⟩:=h.2.2 hn
 refine ⟨ad,e,fun j p hj=>⟨[enc p],rfl,rfl,fun i u hu => ?_⟩⟩
 obtain ⟨hl,hp⟩:=List.getElem?_eq_some_iff.1 hj
 have h2:=hc j (by have:=h.1;omega)
 rw [List.getD_eq_getElem?_getD,hj] at h2
 cases i with
 | zero =>
  have:enc p=u:=by simpa using hu
  subst this
  simpa [scalar] using h2
 | succ i=>simp at hu
theorem reads_of_C {α:Type} {enc:α→Value} {d:α} {h1:∀ x,(enc x).oneCell'=true} {w:World} {A:Option Addr} {n:Nat} {xs:List α} (h:(scalar enc h1).C w A n xs):GQ enc d w A n xs:=by
 refine ⟨h.1,h.2.1,fun hn => ?_⟩
 obtain ⟨ad,e,hc⟩:=h.2.2 hn
 refine ⟨ad,e,fun j hj => ?_⟩
 have hl:j<xs.length:=by have:=h.1;omega
 obtain ⟨c,_,hK,hcell⟩:=hc j _ (List.getElem?_eq_getElem hl)
 have hK':c=[enc xs[j]]:=hK
 subst hK'
 have:=hcell 0 _ rfl
 simpa [scalar,List.getD_eq_getElem?_getD,List.getElem?_eq_getElem hl] using this
end Kd
namespace Kd
section
variable {α β:Type} {d:Kd α} {d':Kd β} {e e':Nat} {w w1 W:World} {base b b':Nat} {ok ok' okv oku:Nat→Prop} {v u:Value} {xs:List α} {ys:List β}
theorem R_alloc (h:d.R e w base ok v xs) (o:Obj):d.R e (w.alloc o) base ok v xs:=R_below h (Q2 (Below.refl _ _) o)
theorem R_drew (h:d.R e w base ok v xs):d.R e w.drew base ok v xs:=R_below h (Ym (Below.refl _ _))
theorem R_drewN (h:d.R e w base ok v xs) (m:Nat):d.R e (w.drewN m) base ok v xs:=R_below h (Q0 (Below.refl _ _) m)
theorem C_alloc {A:Option Addr} {n:Nat} (h:d.C w A n xs) (o:Obj):d.C (w.alloc o) A n xs:=C_below h (Q2 (Below.refl _ _) o)
theorem C_drew {A:Option Addr} {n:Nat} (h:d.C w A n xs):d.C w.drew A n xs:=C_below h (Ym (Below.refl _ _))
theorem C_drewN {A:Option Addr} {n:Nat} (h:d.C w A n xs) (m:Nat):d.C (w.drewN m) A n xs:=C_below h (Q0 (Below.refl _ _) m)
theorem C_nil (d:Kd α) (w:World):d.C w none ([]:List α).length []:=⟨rfl,by simp,fun h=>absurd h (Nat.lt_irrefl 0)⟩
theorem R_reads' {A:Option Addr} {n c:Nat} (h:d.R e w base ok (.slice A n c) xs):n=xs.length∧n≤c∧d.C w A xs.length xs:=by
 obtain ⟨A',c',he,hl,hr⟩:=R_reads h
 injection he with h1 h2 h3
 subst h1
 exact ⟨h2,by omega,hr⟩
theorem R_lt (h:d.R e w base ok v xs):∀ k,v.ownBlock=some k→k<w.heap.size:=by
 obtain ⟨inner,ho⟩:=qhm h
 exact qkb ho
theorem R_base (h:d.R e w base ok v xs):∀ k,v.ownBlock=some k→base≤k:=by
 obtain ⟨inner,ho⟩:=qhm h
 exact XY ho
theorem R_form (h:d.R e w base ok v xs) (hp:0<xs.length):∃ g cap,v = .slice (some ⟨g,0,none⟩) xs.length cap∧base≤g∧g<w.heap.size ∧ ∃ cells,w.heap[g]? = some (.cells cells e (0,0)):=by
 obtain ⟨inner,ho⟩:=qhm h
 obtain ⟨g,cap,he,hb,hl⟩:=ho.form hp
 obtain ⟨cells,hc⟩:=KU ho g (by rw [he];simp [Value.ownBlock])
 exact ⟨g,cap,he,hb,hl,cells,hc⟩
end
section
variable {w W:World} {A:Option Addr} {n:Nat}
theorem at_int {k:IntKind} {xs:List Int} (h:(Kd.int k).C w A n xs) (i:Int) (h0:0≤i) (h1:i<n):∃ ad,A=some ad∧w.cell? (ad.add i.toNat)=some (.int k (rd xs i)) :=
 GQ.at_ (reads_of_C (enc:=Value.int k) (d:=(0:Int)) (h1:=fun _=>rfl) h) i h0 h1
variable {α:Type} {enc:α→Value} {h1:∀ x,(enc x).oneCell'=true} {e base g cap:Nat} {ok:Nat→Prop} {xs:List α}
theorem qpX (h:(scalar enc h1).R e W base ok (.slice (some ⟨g,0,none⟩) xs.length cap) xs) (i:Int) (x:α):(scalar enc h1).R e (W.setCell ⟨g,i.toNat,none⟩ (enc x)) base ok (.slice (some ⟨g,0,none⟩) xs.length cap) (xs.set i.toNat x)∧W.grownBy (W.setCell ⟨g,i.toNat,none⟩ (enc x)) (some g):=by
 obtain ⟨ho,hg⟩:=qdK (qkd h) i x
 exact ⟨R_of_own (by rw [List.length_set];exact ho) h.1,hg⟩
end
section
variable {P:Program} {ops:Array Oper} {rest:List Oper} {o:Oper} {a:Act} {Q:Exit→Act→World→Prop}
theorem event_run {W w1:World} {v:Value} (hgd:o.guard=none) (hrun:(execOp a.eval o).run P W = .ok (.value v) w1) (h:wpList P ops Q rest (a.put o.dst v) w1):wpList P ops Q (o::rest) a W:=by
 refine wpList_plain hgd fun K hK => ?_
 unfold Oper.wp
 rw [hrun]
 exact hK _ _ h
variable {α:Type}
theorem R_lit (d:Kd α) {w0 W:World} (base e:Nat) (hgd:o.guard=none) {N:Tmp} (_hd:o.dst=some N) {xs:List α} {inner:List Value} {ok okp:Nat→Prop}
  (hrun:(execOp a.eval o).run P W = .ok (.value (.slice (some ⟨W.heap.size,0,none⟩) xs.length xs.length)) (W.alloc (.cells inner.toArray e)))
  (hrep:Reps (d.M W base okp) d.sz xs inner) (hok:∀ k,okp k→ok k) (hfresh:ok W.heap.size) (HB:Below base w0 W) (hbase:base≤W.heap.size) (hm:xs.length≤9223372036854775807)
  (h:∀ v1 w1,d.R e w1 base ok v1 xs→Below base w0 w1→W.grownBy w1 none→(∃ b,v1.ownBlock=some b∧W.heap.size≤b)→wpList P ops Q rest (a.put o.dst v1) w1):wpList P ops Q (o::rest) a W:=by
 refine event_run hgd hrun (h _ _ ⟨fun k hk => ?_,inner,?_,?_⟩ (HB.alloc hbase _) (World.grownBy_alloc W _ none) ⟨W.heap.size,by simp [Value.ownBlock],Nat.le_refl _⟩)
 ·
  have:W.heap.size=k:=by simpa [Value.ownBlock] using hk
  subst this
  exact hfresh
 ·
  have h2:=World.ownsRow_lit (base:=base) (e:=e) (size:=d.sz) W inner.toArray xs.length hbase (by simpa [maxLen] using hm) (by simpa using hrep.1)
  simpa using h2
 refine hrep.imp_ (fun p c hp=>d.M_mono (fun k hk=>⟨hok k hk.1,fun he => ?_⟩) (qkV (d.M_bound hp) (Q2 (Below.refl _ _) _)))
 have h3:k=W.heap.size:=by simpa [Value.ownBlock] using he
 have:=hk.2.2.1
 omega
theorem qiL {α:Type} {R:α→List Value→Prop} {z:Value} {size:Nat} {z0:α} (hz:z.cells.size=size) (hs:0<size) (h0:R z0 z.cells.toList) (m:Nat):Reps R size (List.replicate m z0) (madeCells z.cells (m*size)).toList:=by
 refine ⟨by simp [size_madeCells],fun j p hj => ?_⟩
 obtain ⟨hjl,hp⟩:=List.getElem?_eq_some_iff.1 hj
 have hjm:j<m:=by simpa using hjl
 have hp':z0=p:=by simpa using hp
 subst hp'
 have hle:j*size+size≤m*size:=by rw [← Nat.succ_mul];exact Nat.mul_le_mul_right _ hjm
 have:((madeCells z.cells (m*size)).toList.drop (j*size)).take size=z.cells.toList:=by
  apply List.ext_getElem
  ·
   simp [size_madeCells,hz]
   omega
  intro i h1 h2
  have hi:i<size:=by rw [Array.length_toList,hz] at h2;exact h2
  have hmod:(j*size+i) % size=i:=by
   rw [Nat.mul_comm,Nat.mul_add_mod]
   exact Nat.mod_eq_of_lt hi
  simp [madeCells,hz,hmod]
  rw [getElem!_pos z.cells i (by omega)]
 rw [this]
 exact h0
theorem R_make (d:Kd α) {w0 W:World} (base e:Nat) (hgd:o.guard=none) {N:Tmp} (hd:o.dst=some N) (t:TypeId) (x y:Operand) (ho:o.op = .makeSlice t x y) (n:Int) (hx:a.eval x = .int .i64 n) (hy:a.eval y = .int .i64 n)
  (ht:P.underlying t=some (.slice e)) (z:Value) (bytes:Nat) (hinfo:(P.info? e).map (fun i=>(i.zero,i.size,i.bytes))=some (some z,d.sz,bytes)) (hz:z.cells.size=d.sz) (hs0:0<d.sz) (hb0:0<bytes)
  (z0:α) {ok okp:Nat→Prop} (hzero:d.M W base okp z0 z.cells.toList) (hok:∀ k,okp k→ok k) (hfresh:ok W.heap.size) (h0:0≤n) (hl:n.toNat*bytes≤281474976710656) (HB:Below base w0 W) (hbase:base≤W.heap.size)
  (h:∀ v1 w1,d.R e w1 base ok v1 (List.replicate n.toNat z0)→Below base w0 w1→W.grownBy w1 none→(∃ b,v1.ownBlock=some b∧W.heap.size≤b)→wpList P ops Q rest (a.put o.dst v1) w1):wpList P ops Q (o::rest) a W:=by
 obtain ⟨m,rfl⟩:=Int.eq_ofNat_of_zero_le h0
 simp only [Int.toNat_natCast] at hl h
 obtain ⟨i0,hi,hzz⟩:=Option.map_eq_some_iff.1 hinfo
 simp only [Prod.mk.injEq] at hzz
 obtain ⟨hz0,hz1,hz2⟩:=hzz
 have hm:m≤281474976710656:=Nat.le_trans (Nat.le_mul_of_pos_right _ hb0) hl
 have hr:=run_make (P:=P) W t e i0 z ht hi hz0 .i64 .i64 (m:Int) (m:Int) (by omega) (by omega)
  (by
   have h3:((i0.bytes*m:Nat):Int)≤281474976710656:=by rw [hz2,Nat.mul_comm];omega
   rwa [Int.natCast_mul] at h3) (by omega)
 simp only [Int.toNat_natCast] at hr
 rw [hz1] at hr
 refine R_lit d base e hgd hd (xs:=List.replicate m z0) (inner:=(madeCells z.cells (m*d.sz)).toList) (okp:=okp) (ok:=ok) ?_ (qiL hz hs0 hzero m) hok hfresh HB hbase (by simp;omega) h
 simp [execOp,ho,hx,hy,hr]
end
end Kd
theorem qke {w:World} {base n m c size:Nat} {e:TypeId} {A:Option Addr} {xs:List Value} (h:w.ownsRow base e size (.slice A n c) n xs) (hm:m≤n):w.ownsRow base e size (.slice A m c) m (xs.take (m*size)):=by
 obtain ⟨h1,h2⟩:=h
 refine ⟨by rw [List.length_take,h1];exact Nat.min_eq_left (Nat.mul_le_mul_right _ hm),?_⟩
 rcases h2 with ⟨he,h0⟩|⟨g,cap,cur,he,hb,hh,hnc,hcm,hcs,ht⟩
 ·
  injection he with ha _ hc
  subst ha;subst hc
  exact .inl ⟨by rw [show m=0 by omega],by omega⟩
 injection he with ha _ hc
 subst ha;subst hc
 refine .inr ⟨g,c,cur,rfl,hb,hh,by omega,hcm,hcs,?_⟩
 rw [← ht,List.take_take,Nat.min_eq_left (Nat.mul_le_mul_right _ hm)]
def QRow (w:World) (base:Nat) (e:TypeId) (size:Nat) (v:Value) (n:Nat) (xs:List Value):Prop :=
  xs.length=n*size ∧
  ((n=0 ∧ ∃ A,v = .slice A 0 0 ∧ ∀ a,A=some a→base≤a.block ∧ ∃ cur,w.heap[a.block]? = some (.cells cur e (0,0))) ∨
   ∃ g off cap cur,v = .slice (some ⟨g,off*size,none⟩) n cap∧base≤g∧w.heap[g]? = some (.cells cur e (0,0))∧n≤cap∧off+cap≤maxLen∧cur.size=(off+cap)*size∧(cur.toList.drop (off*size)).take (n*size)=xs)
section
variable {w w1:World} {base n size:Nat} {e:TypeId} {v:Value} {xs:List Value}
theorem qko (h:w.ownsRow base e size v n xs):QRow w base e size v n xs:=by
 obtain ⟨h1,h2⟩:=h
 refine ⟨h1,?_⟩
 rcases h2 with ⟨rfl,h0⟩|⟨g,cap,cur,rfl,hb,hh,hnc,hcm,hcs,ht⟩
 ·
  exact .inl ⟨h0,none,rfl,fun a ha=>by cases ha⟩
 exact .inr ⟨g,0,cap,cur,by rw [Nat.zero_mul],hb,hh,hnc,by rw [Nat.zero_add];exact hcm,by rw [Nat.zero_add];exact hcs,by rw [Nat.zero_mul,List.drop_zero];exact ht⟩
theorem US {g:Nat}:∀ (vs:List Value) (o:Nat) {w:World} (k:Nat),k≠g→(w.setCells g o vs).heap[k]? = w.heap[k]?
 | [],_,_,_,_=>rfl
 | v::r,o,w,k,hk=>by
  rw [World.setCells,US r (o+1) k hk]
  exact Below.heap_setCell w ⟨g,o,none⟩ v k hk
theorem WT (g:Nat):∀ (vs:List Value) (o:Nat) (w:World),(w.setCells g o vs).os=w.os∧(w.setCells g o vs).tape=w.tape∧(w.setCells g o vs).output=w.output∧(w.setCells g o vs).heap.size=w.heap.size
 | [],_,_=>⟨rfl,rfl,rfl,rfl⟩
 | v::r,o,w=>by
  obtain ⟨h1,h2,h3,h4⟩:=WT g r (o+1) (w.setCell ⟨g,o,none⟩ v)
  rw [World.setCells]
  exact ⟨h1,h2,h3,by rw [h4];simp [World.setCell]⟩
theorem qae {g:Nat} {e:TypeId}:∀ (vs:List Value) (o:Nat) (w:World) (cur:Array Value),w.heap[g]? = some (.cells cur e (0,0))→o+vs.length≤cur.size →
  ∃ cur',(w.setCells g o vs).heap[g]? = some (.cells cur' e (0,0))∧cur'.size=cur.size∧cur'.toList=cur.toList.take o++vs++cur.toList.drop (o+vs.length)
 | [],o,w,cur,h,_=>⟨cur,h,rfl,by simp⟩
 | v::r,o,w,cur,h,hl=>by
  have h2:=qhq h o v
  simp only [List.length_cons] at hl
  obtain ⟨cur',h3,h4,h5⟩:=qae r (o+1) (w.setCell ⟨g,o,none⟩ v) _ h2 (by simp;omega)
  refine ⟨cur',h3,by rw [h4];simp,?_⟩
  rw [h5,Array.toList_setIfInBounds]
  have ho:o<cur.toList.length:=by rw [Array.length_toList];omega
  rw [List.take_set,List.drop_set_of_lt (by omega)]
  simp only [List.length_cons]
  rw [show o+1+r.length=o+(r.length+1) by omega]
  congr 1
  rw [List.take_succ_eq_append_getElem ho,List.set_append_right _ _ (by rw [List.length_take];omega)]
  have ho':o<cur.size:=by omega
  simp [Nat.min_eq_left (Nat.le_of_lt ho')]
end
namespace Kd
theorem qiM {α:Type} {R:α→List Value→Prop} {size m:Nat} {ps:List α} {cs:List Value} (h:Reps R size ps cs) (hm:m≤ps.length):Reps R size (ps.take m) (cs.take (m*size)):=by
 refine ⟨by rw [List.length_take,List.length_take,h.1,Nat.min_eq_left hm,Nat.min_eq_left (Nat.mul_le_mul_right _ hm)],fun j p hj => ?_⟩
 rw [List.getElem?_take] at hj
 split at hj
 ·
  rename_i hjm
  have:=h.2 j p hj
  have hle:j*size+size≤m*size:=by rw [← Nat.succ_mul];exact Nat.mul_le_mul_right _ hjm
  rw [List.drop_take,List.take_take,Nat.min_eq_left (by omega)]
  exact this
 cases hj
theorem R_take {α:Type} {d:Kd α} {e m n c:Nat} {w:World} {base:Nat} {ok:Nat→Prop} {A:Option Addr} {xs:List α} (h:d.R e w base ok (.slice A n c) xs) (hm:m≤xs.length):d.R e w base ok (.slice A m c) (xs.take m):=by
 obtain ⟨h0,inner,ho,hr⟩:=h
 have hn:n=xs.length:=by
  obtain ⟨A',c',he⟩:=qiF ho
  injection he
 subst hn
 have hb:∀ x y:Nat,(Value.slice A x c).ownBlock=(Value.slice A y c).ownBlock:=by
  intro x y
  cases A<;>rfl
 refine ⟨fun k hk=>h0 k (by rw [hb _ m];exact hk),inner.take (m*d.sz),?_,?_⟩
 ·
  rw [List.length_take,Nat.min_eq_left hm]
  exact qke ho hm
 rw [hb m xs.length]
 exact qiM hr hm
def Q {α:Type} (d:Kd α) (e:Nat) (w:World) (base:Nat) (ok:Nat→Prop) (v:Value) (xs:List α):Prop :=
 (∀ k,v.ownBlock=some k→ok k) ∧ ∃ inner,QRow w base e d.sz v xs.length inner∧Reps (d.M w base (fun k=>ok k∧some k≠v.ownBlock)) d.sz xs inner
section
variable {α:Type} {d:Kd α} {e:Nat} {w w1 W:World} {base:Nat} {ok ok':Nat→Prop} {v:Value} {xs:List α}
theorem qog (h:d.R e w base ok v xs):d.Q e w base ok v xs:=by
 obtain ⟨h0,inner,ho,hr⟩:=h
 exact ⟨h0,inner,qko ho,hr⟩
theorem Q_nil (d:Kd α) (e:Nat) (w:World) (base:Nat) (ok:Nat→Prop):d.Q e w base ok (.slice none 0 0) []:=qog (R_nil d e w base ok)
end
end Kd
namespace Kd
section
variable {α:Type} {d:Kd α} {e e':Nat} {w w1 W:World} {base:Nat} {ok:Nat→Prop} {u v:Value} {xs:List α}
theorem R_typed (h:d.R e w base ok v xs):∀ k,v.ownBlock=some k → ∃ cells,w.heap[k]? = some (.cells cells e (0,0)):=by
 obtain ⟨inner,ho⟩:=qhm h
 exact fun k hk=>KU ho k hk
theorem R_apart' (h:d.R e W base ok u xs) (hty:∀ k,v.ownBlock=some k → ∃ cells,W.heap[k]? = some (.cells cells e' (0,0))) (ht:∀ q,q∈e::d.E→q≠e'):d.R e W base (fun k=>ok k∧some k≠v.ownBlock) u xs:=by
 refine R_mono (R_bound h) (fun k hk=>⟨hk.1,fun he => ?_⟩)
 obtain ⟨_,_,_,q,hq,cells,hc⟩:=hk
 obtain ⟨cells',hc'⟩:=hty k he.symm
 rw [hc] at hc'
 injection hc' with hc'
 injection hc' with _ hc'
 exact ht q hq hc'
theorem R_elder' (hu:d.R e W base ok u xs) (hbase:∀ k,v.ownBlock=some k→W.heap.size≤k) (hb:Below W.heap.size W w1):d.R e w1 base (fun k=>ok k∧some k≠v.ownBlock) u xs :=
 R_mono (R_move (R_bound hu) (fun k hk=>hb.block k hk.2.2.1)) (fun k hk=>⟨hk.1,fun he=>by have:=hbase k he.symm;have:=hk.2.2.1;omega⟩)
theorem R_new' (h:d.R e w1 W.heap.size ok v xs) (hlt:∀ k,u.ownBlock=some k→k<W.heap.size):d.R e w1 W.heap.size (fun k=>ok k∧some k≠u.ownBlock) v xs :=
 R_mono (R_bound h) (fun k hk=>⟨hk.1,fun he=>by have:=hlt k he.symm;have:=hk.2.1;omega⟩)
theorem fresh' (hlt:∀ k,u.ownBlock=some k→k<W.heap.size):∀ k,W.heap.size≤k→some k≠u.ownBlock:=fun k hk he=>by have:=hlt k he.symm;omega
end
end Kd
theorem qad {α:Type} (a seg:List α) (o:Nat) (h:o+seg.length≤a.length) (q:Nat) :
  (a.take o++seg++a.drop (o+seg.length))[q]? = if q<o then a[q]? else if q<o+seg.length then seg[q-o]? else a[q]?:=by
 have hl:(a.take o).length=o:=by rw [List.length_take];omega
 rw [List.append_assoc]
 by_cases h1:q<o
 ·
  rw [if_pos h1,List.getElem?_append_left (by omega),List.getElem?_take,if_pos h1]
 rw [if_neg h1,List.getElem?_append_right (by omega),hl]
 by_cases h2:q<o+seg.length
 ·
  rw [if_pos h2,List.getElem?_append_left (by omega)]
 rw [if_neg h2,List.getElem?_append_right (by omega),List.getElem?_drop]
 congr 1
 omega
namespace Kd
section
variable {α:Type} {d:Kd α} {e base g n cap:Nat} {ok okp:Nat→Prop} {W:World} {xs:List α}
theorem R_elem (h:d.R e W base ok (.slice (some ⟨g,0,none⟩) n cap) xs) (z:α) (i:Int) (h0:0≤i) (h1:i<n) :
  ∃ c,c.length=d.sz∧d.M W base (fun k=>ok k∧k≠g) (xs.getD i.toNat z) c∧(∀ j u,c[j]? = some u→W.cell? ⟨g,i.toNat*d.sz+j,none⟩=some u) ∧ ∀ j,W.frozen? ⟨g,i.toNat*d.sz+j,none⟩=false:=by
 obtain ⟨hn,hnc,hC⟩:=R_reads' h
 obtain ⟨_,inner,ho,hr⟩:=h
 have hil:i.toNat<xs.length:=by omega
 have hseg:i.toNat*d.sz+d.sz≤inner.length:=by rw [hr.1,← Nat.succ_mul];exact Nat.mul_le_mul_right _ hil
 have hM:=hr.2 i.toNat _ (List.getElem?_eq_getElem hil)
 refine ⟨(inner.drop (i.toNat*d.sz)).take d.sz,by rw [List.length_take,List.length_drop];omega,?_,fun j u hu => ?_,fun j => ?_⟩
 ·
  rw [List.getD_eq_getElem?_getD,List.getElem?_eq_getElem hil]
  exact d.M_mono (fun k hk=>⟨hk.1,fun he=>hk.2 (by rw [he];simp [Value.ownBlock])⟩) hM
 ·
  rw [List.getElem?_take] at hu
  split at hu
  ·
   rw [List.getElem?_drop] at hu
   have:=ho.cells (g:=g) (by simp [Value.ownBlock]) _ u hu
   rwa [Uu] at this
  cases hu
 obtain ⟨cells,hc⟩:=KU ho g (by simp [Value.ownBlock])
 exact Q9 hc _
theorem qpY (h:d.R e W base ok (.slice (some ⟨g,0,none⟩) n cap) xs) (i:Int) (h0:0≤i) (h1:i<n) {c seg:List Value} {j:Nat} (hcl:c.length=d.sz) (hcc:∀ j u,c[j]? = some u→W.cell? ⟨g,i.toNat*d.sz+j,none⟩=some u)
  (hj:j+seg.length≤d.sz) {x':α} (hM:d.M W base okp x' (c.take j++seg++c.drop (j+seg.length))) (hokp:∀ k,okp k→ok k∧k≠g) :
  d.R e (W.setCells g (i.toNat*d.sz+j) seg) base ok (.slice (some ⟨g,0,none⟩) n cap) (xs.set i.toNat x')∧W.grownBy (W.setCells g (i.toNat*d.sz+j) seg) (some g):=by
 obtain ⟨hn,hnc,_⟩:=R_reads' h
 obtain ⟨hok,inner,ho,hr⟩:=h
 have hil:i.toNat<xs.length:=by omega
 have hseg:i.toNat*d.sz+d.sz≤inner.length:=by rw [hr.1,← Nat.succ_mul];exact Nat.mul_le_mul_right _ hil
 have hin:inner.length=n*d.sz:=by rw [hr.1,hn]
 obtain ⟨ho1,ho2⟩:=ho
 rcases ho2 with ⟨hv,_⟩|⟨g',cap',cur,hv,hb,hh,hnc',hcm,hcs,ht⟩
 ·
  cases hv
 injection hv with ha _ hc
 injection ha with ha
 injection ha with hg
 subst hg;subst hc
 have hfit:i.toNat*d.sz+j+seg.length≤cur.size:=by
  have:n*d.sz≤cap*d.sz:=Nat.mul_le_mul_right _ hnc
  omega
 obtain ⟨cur',h3,h4,h5⟩:=qae seg (i.toNat*d.sz+j) W cur hh hfit
 obtain ⟨s1,s2,s3,s4⟩:=WT g seg (i.toNat*d.sz+j) W
 have hfar:∀ k,k≠g→(W.setCells g (i.toNat*d.sz+j) seg).heap[k]? = W.heap[k]?:=fun k hk=>US seg _ k hk
 have hcin:∀ q,q<d.sz→c[q]? = inner[i.toNat*d.sz+q]?:=by
  intro q hq
  have hq':q<c.length:=by omega
  have h6:=hcc q _ (List.getElem?_eq_getElem hq')
  rw [cell_of_row W g _ cur e (0,0) hh] at h6
  rw [List.getElem?_eq_getElem hq',← h6,← ht,List.getElem?_take,if_pos (by rw [← hn];omega),Array.getElem?_toList]
 refine ⟨⟨hok,inner.take (i.toNat*d.sz+j)++seg++inner.drop (i.toNat*d.sz+j+seg.length),⟨?_,.inr ⟨g,cap,cur',by rw [List.length_set,hn],hb,h3,by rw [List.length_set,← hn];exact hnc,hcm,by rw [h4,hcs],?_⟩⟩,?_⟩,
  ⟨s1,s2,s3,by rw [s4];exact Nat.le_refl _,fun k _ hk=>hfar k (fun he=>hk (by rw [he]))⟩⟩
 ·
  rw [List.length_set]
  simp only [List.length_append,List.length_take,List.length_drop]
  rw [hr.1] at hseg ⊢
  omega
 ·
  rw [List.length_set,← hn]
  apply List.ext_getElem?
  intro q
  rw [List.getElem?_take,h5]
  rw [qad cur.toList seg (i.toNat*d.sz+j) (by rw [Array.length_toList];omega) q,qad inner seg (i.toNat*d.sz+j) (by omega) q]
  have hcur:∀ q,q<n*d.sz→cur.toList[q]? = inner[q]?:=by
   intro q hq
   rw [← ht,List.getElem?_take,if_pos (by rw [← hn];exact hq)]
  by_cases hq:q<n*d.sz
  ·
   rw [if_pos hq,hcur q hq]
  rw [if_neg hq,if_neg (by omega),if_neg (by omega),List.getElem?_eq_none (by omega)]
 refine ⟨?_,fun m p hm => ?_⟩
 ·
  rw [List.length_set]
  simp only [List.length_append,List.length_take,List.length_drop]
  rw [hr.1] at hseg ⊢
  omega
 have hml:m<xs.length:=by
  have:=(List.getElem?_eq_some_iff.1 hm).1
  rwa [List.length_set] at this
 have hmfit:m*d.sz+d.sz≤inner.length:=by rw [hr.1,← Nat.succ_mul];exact Nat.mul_le_mul_right _ hml
 have hgo:some g=(Value.slice (some ⟨g,0,none⟩) n cap).ownBlock:=by simp [Value.ownBlock]
 by_cases hmi:m=i.toNat
 ·
  subst hmi
  rw [List.getElem?_set_self (by omega)] at hm
  injection hm with hm
  subst hm
  have hcells:((inner.take (i.toNat*d.sz+j)++seg++inner.drop (i.toNat*d.sz+j+seg.length)).drop (i.toNat*d.sz)).take d.sz=c.take j++seg++c.drop (j+seg.length):=by
   apply List.ext_getElem?
   intro q
   rw [List.getElem?_take,List.getElem?_drop,qad inner seg _ (by omega),qad c seg j (by omega) q]
   by_cases hq:q<d.sz
   ·
    rw [if_pos hq,hcin q hq]
    by_cases hq1:q<j
    ·
     rw [if_pos (by omega),if_pos hq1]
    rw [if_neg (by omega),if_neg hq1]
    by_cases hq2:q<j+seg.length
    ·
     rw [if_pos (by omega),if_pos hq2]
     congr 1
     omega
    rw [if_neg (by omega),if_neg hq2]
   rw [if_neg hq,if_neg (by omega),if_neg (by omega),List.getElem?_eq_none (by omega)]
  rw [hcells]
  refine d.M_mono (fun k hk => ?_) (d.M_move (w1:=W.setCells g (i.toNat*d.sz+j) seg) (fun k hk=>hfar k (hokp k hk).2) hM)
  exact ⟨(hokp k hk).1,fun he=>(hokp k hk).2 (by rw [← hgo] at he;injection he)⟩
 rw [List.getElem?_set_ne (by omega)] at hm
 have hold:=hr.2 m p hm
 have hcells:((inner.take (i.toNat*d.sz+j)++seg++inner.drop (i.toNat*d.sz+j+seg.length)).drop (m*d.sz)).take d.sz=(inner.drop (m*d.sz)).take d.sz:=by
  apply List.ext_getElem?
  intro q
  rw [List.getElem?_take,List.getElem?_take,List.getElem?_drop,List.getElem?_drop,qad inner seg _ (by omega)]
  by_cases hq:q<d.sz
  ·
   rw [if_pos hq,if_pos hq]
   rcases Nat.lt_or_gt_of_ne hmi with hlt|hgt
   ·
    have:m*d.sz+d.sz≤i.toNat*d.sz:=by rw [← Nat.succ_mul];exact Nat.mul_le_mul_right _ hlt
    rw [if_pos (by omega)]
   have:i.toNat*d.sz+d.sz≤m*d.sz:=by rw [← Nat.succ_mul];exact Nat.mul_le_mul_right _ hgt
   rw [if_neg (by omega),if_neg (by omega)]
  rw [if_neg hq,if_neg hq]
 rw [hcells]
 refine d.M_move (fun k hk=>hfar k (fun he=>hk.2 (by rw [he];exact hgo))) hold
end
end Kd
namespace Kd
def qqo {α:Type} (d:Kd α) (w0:World):Kd α where
 sz:=d.sz
 E:=[]
 K:=fun _ x cs=>d.K w0 x cs
 M:=fun _ _ _ x cs=>d.K w0 x cs
 K_len:=d.K_len
 K_one:=d.K_one
 K_below:=fun _ h=>h
 K_of_M:=fun h=>h
 M_mono:=fun _ h=>h
 M_bound:=fun h=>h
 M_move:=fun _ h=>h
 M_lower:=fun _ h=>h
def or_ {α:Type} (a b:Kd α) (h:b.sz=a.sz):Kd α where
 sz:=a.sz
 E:=a.E++b.E
 K:=fun w x cs=>a.K w x cs∨b.K w x cs
 M:=fun w base ok x cs=>a.M w base ok x cs∨b.M w base ok x cs
 K_len:=fun hk=>hk.elim a.K_len (fun hk=>(b.K_len hk).trans h)
 K_one:=fun hk=>hk.elim a.K_one b.K_one
 K_below:=fun hb hk=>hk.imp (a.K_below hb) (b.K_below hb)
 K_of_M:=fun hk=>hk.imp a.K_of_M b.K_of_M
 M_mono:=fun hok hk=>hk.imp (a.M_mono hok) (b.M_mono hok)
 M_bound:=fun hk=>hk.imp
  (fun hk=>a.M_mono (fun _ ⟨h1,h2,h3,q,hq,hc⟩=>⟨h1,h2,h3,q,List.mem_append_left _ hq,hc⟩) (a.M_bound hk))
  (fun hk=>b.M_mono (fun _ ⟨h1,h2,h3,q,hq,hc⟩=>⟨h1,h2,h3,q,List.mem_append_right _ hq,hc⟩) (b.M_bound hk))
 M_move:=fun hm hk=>hk.imp (a.M_move hm) (b.M_move hm)
 M_lower:=fun hb hk=>hk.imp (a.M_lower hb) (b.M_lower hb)
def mix {α:Type} (e:Nat) (d dm:Kd α) (w0:World):Kd (List α):=or_ (qqo (slice e d) w0) (slice e dm) rfl
end Kd
theorem qct {P:Program} {w:World} {g o:Nat} {e:TypeId} {cur:Array Value} (t:TypeId) (u:Value) (seg:List Value) (hh:w.heap[g]? = some (.cells cur e (0,0))) (hu:u.cells.toList=seg) (ht:(P.info? t).map (·.size)=some seg.length)
  (hfit:o+seg.length≤cur.size) (h1:∀ q∈seg,q.oneCell'=true):(Instr.storeAt t (.pointer (some ⟨g,o,none⟩)) u).run P w = .ok () (w.setCells g o seg):=by
 obtain ⟨i,hi,hsz⟩:=Option.map_eq_some_iff.1 ht
 have hc:u.cells.size=i.size:=by rw [hsz,← hu,Array.length_toList]
 have hst:=run_storeCells_cells (P:=P) g o seg 0 w (fun j hj=>by rw [cell_of_row w g _ cur e (0,0) hh];simp;omega) (fun j _=>Q9 hh _) h1
 simp only [Nat.add_zero] at hst
 simp [Instr.storeAt,Instr.sureAddr,storeVar,sizeOf,typeInfo,hi,hc,hu,hst]
theorem qqq {P:Program} {ops:Array Oper} {rest:List Oper} {o:Oper} {a:Act} {Q:Exit→Act→World→Prop} {W:World} (op:Op) (_ho:o.op=op) (h:wpList P ops Q (o::rest) a W):wpList P ops Q (o::rest) a W:=h
namespace Kd
section
variable {P:Program} {ops:Array Oper} {rest:List Oper} {o:Oper} {a:Act} {Q:Exit→Act→World→Prop} {α:Type}
theorem R_store (d:Kd α) {w0 W:World} (base:Nat) (hN:o.dst=none) (hgd:o.guard=none) (t:TypeId) (p x:Operand) (ho:o.op = .store t p x) (e:TypeId) {g n cap o':Nat} (i:Int) (j:Nat) (xs:List α) (x':α) (u:Value) (seg c:List Value) (ok okp:Nat→Prop)
  (haddr:a.eval p = .pointer (some ⟨g,o',none⟩)) (hoff:o'=i.toNat*d.sz+j) (hx:a.eval x=u) (hu:u.cells.toList=seg) (ht:(P.info? t).map (·.size)=some seg.length) (h1:∀ q∈seg,q.oneCell'=true)
  (HO:d.R e W base ok (.slice (some ⟨g,0,none⟩) n cap) xs) (h0:0≤i) (hi:i<n) (hcl:c.length=d.sz) (hcc:∀ j u,c[j]? = some u→W.cell? ⟨g,i.toNat*d.sz+j,none⟩=some u)
  (hj:j+seg.length≤d.sz) (hM:d.M W base okp x' (c.take j++seg++c.drop (j+seg.length))) (hokp:∀ k,okp k→ok k∧k≠g) (HB:Below base w0 W)
  (h:∀ w1,d.R e w1 base ok (.slice (some ⟨g,0,none⟩) n cap) (xs.set i.toNat x')→Below base w0 w1→W.grownBy w1 (some g)→wpList P ops Q rest a w1):wpList P ops Q (o::rest) a W:=by
 subst hoff
 obtain ⟨hrow,hg⟩:=qpY HO i h0 hi hcl hcc hj hM hokp
 have hbg:base≤g:=R_base HO g (by simp [Value.ownBlock])
 have hnx:n=xs.length:=(R_reads' HO).1
 obtain ⟨_,inner,hown,hr⟩:=HO
 have hil:i.toNat<n:=by omega
 have hB:Below base w0 (W.setCells g (i.toNat*d.sz+j) seg):=HB.trans ⟨hg.os,hg.tape,hg.output,hg.size,fun k hk=>by
  have hlt:k<W.heap.size∨W.heap.size≤k:=Nat.lt_or_ge _ _
  rcases hlt with hlt|hge
  ·
   exact hg.block k hlt (fun he=>by injection he with he;omega)
  exact US seg _ k (by omega)⟩
 refine wpList_plain hgd fun K hK => ?_
 have hrun:(Instr.storeAt t (.pointer (some ⟨g,i.toNat*d.sz+j,none⟩)) u).run P W = .ok () (W.setCells g (i.toNat*d.sz+j) seg):=by
  rcases hown.2 with ⟨hv,_⟩|⟨g',cap',cur,hv,hb,hh,hnc,hcm,hcs,_⟩
  ·
   cases hv
  injection hv with ha _ hc
  injection ha with ha
  injection ha with hg'
  subst hg';subst hc
  refine qct t u seg hh hu ht ?_ h1
  have h2:i.toNat*d.sz+d.sz≤n*d.sz:=by rw [← Nat.succ_mul];exact Nat.mul_le_mul_right _ hil
  have h3:n*d.sz≤cap*d.sz:=Nat.mul_le_mul_right _ (by omega)
  omega
 unfold Oper.wp execOp
 simp only [ho,haddr,hx,Sem.run_bind,Sem.run_pure,Result.andThen_ok,hrun]
 show K (a.put o.dst undef) _
 rw [hN]
 exact hK a _ (h _ hrow hB hg)
end
end Kd
theorem add_add (a:Addr) (i j:Nat):(a.add i).add j=a.add (i+j):=by
 unfold Addr.add
 by_cases h1:i=0<;>by_cases h2:j=0<;>simp [h1,h2,Nat.add_assoc]
theorem Qe {w W:World} (h:Below w.heap.size w W):w.heap.size≤W.heap.size:=h.size
theorem Qj {w W w2:World} (h:Below w.heap.size w W) (k:Below W.heap.size W w2):Below w.heap.size w w2:=qfT h h.size k
theorem Q7 {w W:World} {g j:Nat} {v:Value} (h:Below w.heap.size w W) (hg:w.heap.size≤g):Below w.heap.size w (W.setCell ⟨g,j,none⟩ v):=h.setCell hg _
theorem qpm {w W:World} {g:Nat} (h:qkU w W g none) {a:Addr} {v:Value} (hc:w.cell? a=some v) (hne:a.block≠g):W.cell? a=some v:=by
 have:=h.2 a.block (World.block_lt_of_cell? w a hc) hne (by simp)
 simpa [World.cell?,this] using hc
theorem Qg (a:Addr) (i:Nat):(a.add i).block=a.block:=by unfold Addr.add;split<;>rfl
theorem Qk {W:World} {p a:Addr} (h:a.block≠p.block) (u:Value):(W.setCell p u).cell? a=W.cell? a:=by
 have:=Below.heap_setCell W p u a.block h
 simp [World.cell?,this]
theorem Qv {w:World} {g:Nat} {t:TypeId} {cs cs':Array Value} (h:w.heap[g]? = some (.cells cs t (0,0))) (i:Nat) (u:Value) (e:cs.setIfInBounds i u=cs'):(w.setCell ⟨g,i,none⟩ u).heap[g]? = some (.cells cs' t (0,0)):=e ▸ qhq h i u
theorem Q5 {base:Nat} {w W:World} (h:Below base w W):Below base w W.drew:=h.drew
namespace Kd
section
variable {α:Type} {d:Kd α} {e base g:Nat} {ok:Nat→Prop} {w w1:World} {v:Value} {xs:List α} {o:Obj}
theorem freshB (hb:w.heap[g]? = some o):∀ k,w.heap.size≤k→k≠g:=fun k hk=>by have:=QL hb;omega
end
end Kd
section
variable {P:Program} {ops:Array Oper} {rest:List Oper} {o:Oper} {a:Act} {Q:Exit→Act→World→Prop}
theorem Yv {W:World} (hgd:o.guard=none) {N:Tmp} (_hd:o.dst=some N) {cs:Array Value} {t:TypeId}
  (hrun:(execOp a.eval o).run P W = .ok (.value (.pointer (some ⟨W.heap.size,0,none⟩))) (W.alloc (.cells cs t (0,0))))
  (h:∀ g,g=W.heap.size → ∀ w1,w1.heap[g]? = some (.cells cs t (0,0))→Below W.heap.size W w1→wpList P ops Q rest (a.put o.dst (.pointer (some ⟨g,0,none⟩))) w1):wpList P ops Q (o::rest) a W :=
 Kd.event_run hgd hrun (h _ rfl _ (OH W _) (Q2 (Below.refl _ _) _))
end
namespace Kd
section
variable {α:Type} {enc:α→Value} {h1:∀ x,(enc x).oneCell'=true} {e base g n cap:Nat} {ok:Nat→Prop} {W:World} {xs:List α}
theorem R_putg (h:(scalar enc h1).R e W base ok (.slice (some ⟨g,0,none⟩) n cap) xs) (i:Int) (x:α):(scalar enc h1).R e (W.setCell ⟨g,i.toNat,none⟩ (enc x)) base ok (.slice (some ⟨g,0,none⟩) n cap) (xs.set i.toNat x)∧W.grownBy (W.setCell ⟨g,i.toNat,none⟩ (enc x)) (some g):=by
 obtain ⟨rfl,_⟩:=R_reads' h
 exact qpX h i x
end
end Kd
section
variable {P:Program} {ops:Array Oper} {rest:List Oper} {o:Oper} {a:Act} {Q:Exit→Act→World→Prop} {W:World}
theorem Y0 {N:Tmp} (_hN:o.dst=some N) (h:wpList P ops Q (o::rest) a W):wpList P ops Q (o::rest) a W:=h
end
section
variable {P:Program} {ops:Array Oper} {o:Oper} {a:Act} {Q:Exit→Act→World→Prop} {Kc:Act→World→Prop}
theorem qf1 {W w1:World} {v:Value} (hw:Region.wanted o (yielded ops a.tmps)=true) (hrun:(execOp a.eval o).run P W = .ok (.value v) w1) (h:Kc (a.put o.dst v) w1):if Region.wanted o (yielded ops a.tmps)=true then Oper.wp P o a W Kc Q else Kc (a.put o.dst undef) W:=by
 rw [if_pos hw]
 unfold Oper.wp
 rw [hrun]
 exact h
theorem Xi {W:World} (hw:Region.wanted o (yielded ops a.tmps)=true) {N:Tmp} (_hd:o.dst=some N) {cs:Array Value} {t:TypeId}
  (hrun:(execOp a.eval o).run P W = .ok (.value (.pointer (some ⟨W.heap.size,0,none⟩))) (W.alloc (.cells cs t (0,0))))
  (h:∀ g,g=W.heap.size → ∀ w1,w1.heap[g]? = some (.cells cs t (0,0))→Below W.heap.size W w1→Kc (a.put o.dst (.pointer (some ⟨g,0,none⟩))) w1):if Region.wanted o (yielded ops a.tmps)=true then Oper.wp P o a W Kc Q else Kc (a.put o.dst undef) W :=
 qf1 hw hrun (h _ rfl _ (OH W _) (Q2 (Below.refl _ _) _))
end
inductive Vals (P:Program) (tmps:Array Value) (w:World):List ResultVar→List Value→Prop where
 | nil:Vals P tmps w [] []
 | tmp {u:Tmp} {rs:List ResultVar} {vs:List Value} (h:Vals P tmps w rs vs):Vals P tmps w (.tmp u::rs) (tmps.getD u undef::vs)
 | cell {p:Tmp} {ty:TypeId} {rs:List ResultVar} {vs:List Value} (g:Nat) (t:TypeId) (cs:Array Value) (fr:Nat × Nat) (d:TypeDesc)
   (hp:tmps.getD p undef = .pointer (some ⟨g,0,none⟩)) (hg:w.heap[g]? = some (.cells cs t fr))
   (hu:P.underlying ty=some d) (hd:(match d with | .struct _ | .array _ _=>true|_=>false)=true) (hi:(P.info? ty).map (·.size)=some cs.size)
   (h:Vals P tmps w rs vs):Vals P tmps w (.cell p ty::rs) (.agg cs::vs)
section
variable {P:Program} {tmps:Array Value} {w:World}
theorem qkw {rs:List ResultVar} {vs:List Value} (hv:Vals P tmps w rs vs) (f:ResultVar→Sem Value) (hf:∀ u,f (.tmp u)=pure (tmps.getD u undef)) (hc:∀ a t,f (.cell a t)=(do loadVar t (← asAddr (tmps.getD a undef)))) :
  (rs.mapM f).run P w = .ok vs w:=by
 induction hv with
 | nil=>simp
 | tmp h ih=>simp [List.mapM_cons,hf,ih]
 | cell g t cs fr d hp hg hu hd hi h ih =>
  rw [List.mapM_cons,hc,hp]
  simp [asAddr,run_loadVar_row w g t _ cs fr d hg hu hd hi,ih]
theorem G5 {fn:Func} {rs:List ResultVar} {vs:List Value} (h:fn.results=rs.toArray) (hl:vs.length≠1) (hv:Vals P tmps w rs vs):(results fn tmps).run P w = .ok (.tuple vs.toArray) w:=by
 unfold results
 rw [h,List.mapM_toArray]
 simp only [Sem.run_bind,Sem.run_map]
 rw [qkw hv]
 ·
  simp [hl]
 ·
  intro u
  rfl
 intro a t
 rfl
end
end Go.Proofs.YtmhomdohhihlcaaW.PrintWords
namespace Go.Proofs.YtmhomdohhihlcaaW.PrintLast
section
variable {P:Program} {ops:Array Oper} {Q:Exit→Act→World→Prop} {md:Region.Mode} {S:World→Prop} {ds:List Nat}
def Region.reachB (md:Region.Mode) (ops:Array Oper) (i:Nat):Nat→Nat→Bool
 | 0,_=>false
 | fuel+1,d=>match ops[d]? with
  | some o=>o.after.any fun e=>Region.binds md e&&(e.on==i||Region.reachB md ops i fuel e.on)
  | none=>false
def Region.closedB (md:Region.Mode) (ops:Array Oper) (listed:Array Bool):Bool :=
 (List.range ops.size).all fun j => !listed.getD j false||match ops[j]? with
  | some o=>o.after.all fun e => !Region.binds md e||listed.getD e.on false
  | none=>true
def Region.lastB (md:Region.Mode) (ops:Array Oper) (listed:Array Bool) (ds:List Nat) (i:Nat):Bool :=
 ds.all fun d=>listed.getD d true||Region.reachB md ops i ops.size d
def G1 (md:Region.Mode) (ops:Array Oper) (listed:Array Bool):Prop :=
 ∀ j oj,ops[j]? = some oj→listed.getD j false=true → ∀ e∈oj.after,Region.binds md e=true→listed.getD e.on false=true
theorem Region.closedB_spec {listed:Array Bool} (h:Region.closedB md ops listed=true):G1 md ops listed:=by
 intro j oj hj hl e he hb
 have hlt:j<ops.size:=(Array.getElem?_eq_some_iff.1 hj).1
 have h1:=List.all_eq_true.1 h j (List.mem_range.2 hlt)
 simp only [hl,hj,Bool.not_true,Bool.false_or] at h1
 have h2:=Array.all_eq_true_iff_forall_mem.1 h1 e he
 simpa [hb] using h2
theorem G1.set {listed:Array Bool} {i:Nat} (h:G1 md ops listed) (hi:i∈Region.ready md ops listed):G1 md ops (listed.setIfInBounds i true):=by
 obtain ⟨_,oi,hoi,hall⟩:=mem_ready.1 hi
 intro j oj hj hl e he hb
 by_cases hij:i=j
 ·
  subst hij
  have:oj=oi:=Option.some.inj (hj.symm.trans hoi)
  subst this
  exact getD_set_true (hall e he hb)
 rw [getD_set_ne false hij] at hl
 exact getD_set_true (h j oj hj hl e he hb)
theorem Region.reach_listed {listed:Array Bool} {i:Nat} (hc:G1 md ops listed):∀ (fuel d:Nat),Region.reachB md ops i fuel d=true→listed.getD d false=true→listed.getD i false=true
 | 0,_,h,_=>by simp [Region.reachB] at h
 | fuel+1,d,h,hl=>by
  unfold Region.reachB at h
  cases ho:ops[d]? with
  | none=>rw [ho] at h;simp at h
  | some o =>
   rw [ho] at h
   obtain ⟨e,he,h1⟩:=Array.any_eq_true'.1 h
   simp only [Bool.and_eq_true,Bool.or_eq_true,beq_iff_eq] at h1
   have hle:=hc d o ho hl e he h1.1
   rcases h1.2 with h2|h2
   ·
    rw [← h2];exact hle
   exact Region.reach_listed hc fuel e.on h2 hle
theorem Region.reach_not_ready {listed:Array Bool} {i d fuel:Nat} (hc:G1 md ops listed) (hr:Region.reachB md ops i fuel d=true) (hun:listed.getD i true=false):d ∉ Region.ready md ops listed:=by
 intro hd
 obtain ⟨_,o,ho,hall⟩:=mem_ready.1 hd
 have hi:listed.getD i false=true:=by
  cases fuel with
  | zero=>simp [Region.reachB] at hr
  | succ n =>
   unfold Region.reachB at hr
   rw [ho] at hr
   obtain ⟨e,he,h1⟩:=Array.any_eq_true'.1 hr
   simp only [Bool.and_eq_true,Bool.or_eq_true,beq_iff_eq] at h1
   have hle:=hall e he h1.1
   rcases h1.2 with h2|h2
   ·
    rw [← h2];exact hle
   exact Region.reach_listed hc n e.on h2 hle
 rcases Nat.lt_or_ge i listed.size with h'|h'
 ·
  simp [h'] at hun hi
  rw [hun] at hi
  cases hi
 simp [Array.getElem?_eq_none h'] at hun
def YO (P:Program) (md:Region.Mode) (ops:Array Oper) (Q:Exit→Act→World→Prop) (S:World→Prop) (ds:List Nat):Nat→Array Bool→Act→World→Prop
 | 0,listed,a,w=>Region.ready md ops listed=[]∧Q .normal a w
 | fuel+1,listed,a,w =>
  (Region.ready md ops listed=[]→Q .normal a w) ∧
  ∀ i∈Region.ready md ops listed,wpOp P ops Q i (fun a' w'=>(i ∉ ds→S w→S w')∧YO P md ops Q S ds fuel (listed.setIfInBounds i true) a' w') a w
theorem WU:∀ (fuel:Nat) (listed:Array Bool) (a:Act) (w:World),YO P md ops Q S ds fuel listed a w→wpAny P md ops Q fuel listed a w
 | 0,_,_,_,h=>h
 | fuel+1,_,_,_,h=>⟨h.1,fun i hi=>wpOp_mono (fun a' w' h'=>WU fuel _ a' w' h'.2) (h.2 i hi)⟩
theorem qaY {i:Nat} {oi:Oper} {v:Value} (hi:ops[i]? = some oi) (hsel:∀ (j:Nat) (o:Oper) cs b,ops[j]? = some o→o.op ≠ .select cs b)
  (hQ:∀ c a w,Q (.panic c) (a.put oi.dst v) w→Q (.panic c) a w) (n:Nat) :
  ∀ (fuel:Nat) (listed:Array Bool) (a:Act) (w:World),
   (∀ j oj,ops[j]? = some oj→j≠i→listed.getD j true=false→(∀ e∈oj.after,Region.binds md e=true→e.on≠i)→oi.apart ops oj=true) →
   G1 md ops listed→(∀ d∈ds,listed.getD d true=false→Region.reachB md ops i n d=true) →
   i∈Region.ready md ops listed→YieldsIf P ops S oi v a→S w →
   YO P md ops Q S ds fuel (listed.setIfInBounds i true) (a.put oi.dst v) w→YO P md ops Q S ds (fuel+1) listed a w:=by
 intro fuel
 induction fuel with
 | zero =>
  intro listed a w _ _ _ hr hy hS H
  refine ⟨fun h=>(by rw [h] at hr;cases hr),fun j hj => ?_⟩
  by_cases hji:j=i
  ·
   subst hji;exact hy.wpOp hi hS ⟨fun _ h=>h,H⟩
  have:=ready_mono hj hji
  rw [H.1] at this
  cases this
 | succ fuel ih =>
  intro listed a w hfree hc hd hr hy hS H
  refine ⟨fun h=>(by rw [h] at hr;cases hr),fun j hj => ?_⟩
  by_cases hji:j=i
  ·
   subst hji;exact hy.wpOp hi hS ⟨fun _ h=>h,H⟩
  have h1:=H.2 j (ready_mono hj hji)
  obtain ⟨hjun,oj,hoj,hall⟩:=mem_ready.1 hj
  have hiun:=(mem_ready.1 hr).1
  have hnot:∀ e∈oj.after,Region.binds md e=true→e.on≠i:=fun e he hb heq=>by
   have h1:=hall e he hb
   rw [heq] at h1
   rcases Nat.lt_or_ge i listed.size with h'|h'
   ·
    simp [h'] at hiun h1;rw [hiun] at h1;cases h1
   simp [Array.getElem?_eq_none h'] at h1
  have hjd:j ∉ ds:=fun hm=>Region.reach_not_ready hc (hd j hm hjun) hiun hj
  have h2:=wpOp_putIf hoj (hfree j oj hoj hji hjun hnot) (fun cs b=>hsel i oi cs b hi) (fun cs b=>hsel j oj cs b hoj) hQ hy h1
  have hfree':∀ k ok,ops[k]? = some ok→k≠i→(listed.setIfInBounds j true).getD k true=false →
    (∀ e∈ok.after,Region.binds md e=true→e.on≠i)→oi.apart ops ok=true:=fun k ok hk hki hun hno=>by
   refine hfree k ok hk hki ?_ hno
   by_cases hjk:j=k
   ·
    subst hjk;exact hjun
   rw [getD_set_ne true hjk] at hun;exact hun
  have hd':∀ d∈ds,(listed.setIfInBounds j true).getD d true=false→Region.reachB md ops i n d=true:=fun d hm hun=>by
   refine hd d hm ?_
   by_cases hjk:j=d
   ·
    subst hjk;exact hjun
   rw [getD_set_ne true hjk] at hun;exact hun
  refine wpOp_mono (fun a' w' h3=>⟨h3.2.1,ih (listed.setIfInBounds j true) a' w' hfree' (hc.set hj) hd' (ready_mono hr (Ne.symm hji)) h3.1 (h3.2.1 hjd hS) ?_⟩) h2
  rw [Array.setIfInBounds_comm _ _ hji]
  exact h3.2.2
theorem qcA {i:Nat} {oi:Oper} {v:Value} (hi:ops[i]? = some oi) (hsel:∀ (j:Nat) (o:Oper) cs b,ops[j]? = some o→o.op ≠ .select cs b)
  (hQ:∀ c a w,Q (.panic c) (a.put oi.dst v) w→Q (.panic c) a w) :
  ∀ (fuel:Nat) (listed:Array Bool) (a:Act) (w:World),
   (∀ j oj,ops[j]? = some oj→j≠i→listed.getD j true=false→(∀ e∈oj.after,Region.binds md e=true→e.on≠i)→oi.apart ops oj=true) →
   i∈Region.ready md ops listed→Yields P ops oi v a →
   YO P md ops Q S ds fuel (listed.setIfInBounds i true) (a.put oi.dst v) w→YO P md ops Q S ds (fuel+1) listed a w:=by
 intro fuel
 induction fuel with
 | zero =>
  intro listed a w _ hr hy H
  refine ⟨fun h=>(by rw [h] at hr;cases hr),fun j hj => ?_⟩
  by_cases hji:j=i
  ·
   subst hji;exact (hy.yieldsIf (S:=fun _=>True)).wpOp hi trivial ⟨fun _ h=>h,H⟩
  have:=ready_mono hj hji
  rw [H.1] at this
  cases this
 | succ fuel ih =>
  intro listed a w hfree hr hy H
  refine ⟨fun h=>(by rw [h] at hr;cases hr),fun j hj => ?_⟩
  by_cases hji:j=i
  ·
   subst hji;exact (hy.yieldsIf (S:=fun _=>True)).wpOp hi trivial ⟨fun _ h=>h,H⟩
  have h1:=H.2 j (ready_mono hj hji)
  obtain ⟨hjun,oj,hoj,hall⟩:=mem_ready.1 hj
  have hiun:=(mem_ready.1 hr).1
  have hnot:∀ e∈oj.after,Region.binds md e=true→e.on≠i:=fun e he hb heq=>by
   have h1:=hall e he hb
   rw [heq] at h1
   rcases Nat.lt_or_ge i listed.size with h'|h'
   ·
    simp [h'] at hiun h1;rw [hiun] at h1;cases h1
   simp [Array.getElem?_eq_none h'] at h1
  have h2:=wpOp_put hoj (hfree j oj hoj hji hjun hnot) (fun cs b=>hsel i oi cs b hi) (fun cs b=>hsel j oj cs b hoj) hQ hy h1
  have hfree':∀ k ok,ops[k]? = some ok→k≠i→(listed.setIfInBounds j true).getD k true=false →
    (∀ e∈ok.after,Region.binds md e=true→e.on≠i)→oi.apart ops ok=true:=fun k ok hk hki hun hno=>by
   refine hfree k ok hk hki ?_ hno
   by_cases hjk:j=k
   ·
    subst hjk;exact hjun
   rw [getD_set_ne true hjk] at hun;exact hun
  refine wpOp_mono (fun a' w' h3=>⟨h3.2.1,ih (listed.setIfInBounds j true) a' w' hfree' (ready_mono hr (Ne.symm hji)) h3.1 ?_⟩) h2
  rw [Array.setIfInBounds_comm _ _ hji]
  exact h3.2.2
theorem qce {i:Nat} {oi:Oper} {v:Value} {fuel:Nat} {listed:Array Bool} {a:Act} {w:World} (hi:ops[i]? = some oi)
  (hs:Region.noSelect ops=true) (hf:Region.free md ops listed i=true) (hr:(Region.ready md ops listed).contains i=true)
  (hc:Region.closedB md ops listed=true) (hl:Region.lastB md ops listed ds i=true)
  (hQ:∀ c a w,Q (.panic c) (a.put oi.dst v) w→Q (.panic c) a w) (hy:YieldsIf P ops S oi v a) (hS:S w)
  (h:YO P md ops Q S ds fuel (listed.setIfInBounds i true) (a.put oi.dst v) w):YO P md ops Q S ds (fuel+1) listed a w :=
 qaY hi (Region.noSelect_spec hs) hQ ops.size fuel listed a w (Region.free_spec hi hf) (Region.closedB_spec hc)
  (fun d hm hun=>by have:=List.all_eq_true.1 hl d hm;rw [hun] at this;simpa using this) (by simpa using hr) hy hS h
theorem qcz {rs:List Nat} {fuel:Nat} {listed:Array Bool} {a:Act} {w:World} (hr:Region.ready md ops listed=rs) (hne:rs≠[])
  (h:∀ i∈rs,wpOp P ops Q i (fun a' w'=>(i ∉ ds→S w→S w')∧YO P md ops Q S ds fuel (listed.setIfInBounds i true) a' w') a w):YO P md ops Q S ds (fuel+1) listed a w :=
 ⟨fun h0=>absurd (hr ▸ h0) hne,hr ▸ h⟩
theorem qcd {listed:Array Bool} {a:Act} {w:World} (hr:Region.ready md ops listed=[]) (h:Q .normal a w) :
  ∀ fuel,YO P md ops Q S ds fuel listed a w
 | 0=>⟨hr,h⟩
 | _+1=>⟨fun _=>h,by rw [hr];simp⟩
theorem qch {id:Nat} {a:Act} {w:World} (hm:P.follows .mixedOrders=true)
  (h:YO P .any ops Q S ds ops.size (Array.replicate ops.size false) a { w with drawn:=w.drawn+1 }):(Code.region id ops true).wp P Q a w :=
 wp_region_any hm (WU _ _ _ _ h)
end
section
variable {P:Program} {ops:Array Oper} {Q:Exit→Act→World→Prop} {md:Region.Mode} {S:World→Prop} {ds:List Nat}
def JQ (P:Program) (md:Region.Mode) (ops:Array Oper) (Q:Exit→Act→World→Prop) (S:World→Prop) (ds:List Nat) (fuel:Nat) (listed:Array Bool) (a:Act) (w:World) (rs:List Nat):Prop :=
 ∀ i∈rs,wpOp P ops Q i (fun a' w'=>(i ∉ ds→S w→S w')∧YO P md ops Q S ds fuel (listed.setIfInBounds i true) a' w') a w
theorem JQ.nil {fuel:Nat} {listed:Array Bool} {a:Act} {w:World}:JQ P md ops Q S ds fuel listed a w []:=fun _ h=>by cases h
theorem JQ.cons {fuel:Nat} {listed:Array Bool} {a:Act} {w:World} {i:Nat} {o:Oper} {rs:List Nat} (ho:ops[i]? = some o) (hd:i ∉ ds)
  (h:∀ K':Act→World→Prop,Shut (∀ a w,S w→(S w→YO P md ops Q S ds fuel (listed.setIfInBounds i true) a w)→K' a w)→if Region.wanted o (yielded ops a.tmps)=true then Oper.wp P o a w K' Q else K' (a.put o.dst undef) w)
  (hs:JQ P md ops Q S ds fuel listed a w rs):JQ P md ops Q S ds fuel listed a w (i::rs):=fun j hj=>by
 rcases List.mem_cons.1 hj with rfl|hj
 ·
  exact wpOp_step ho (fun K' hK=>h K' (fun a w hS hW=>hK a w ⟨fun _ _=>hS,hW hS⟩))
 exact hs j hj
theorem UY {rs:List Nat} {fuel:Nat} {listed:Array Bool} {a:Act} {w:World} (hr:Region.ready md ops listed=rs) (hne:rs≠[])
  (h:JQ P md ops Q S ds fuel listed a w rs):YO P md ops Q S ds (fuel+1) listed a w:=qcz hr hne h
theorem qb8 {id n:Nat} {a:Act} {w:World} (l:Array Bool) (hm:P.follows .mixedOrders=true) (hn:ops.size=n) (hl:Array.replicate n false=l) (hS:S w.drew)
  (h:S w.drew→YO P .any ops Q S ds n l a w.drew):(Code.region id ops true).wp P Q a w:=by
 subst hn
 subst hl
 exact qch hm (h hS)
def qfG (md:Region.Mode) (ops:Array Oper) (ds:List Nat) (l l':Array Bool) (i:Nat):Bool :=
 Region.noSelect ops&&Region.free md ops l i&&(Region.ready md ops l).contains i&&Region.closedB md ops l&&Region.lastB md ops l ds i&&(l.setIfInBounds i true==l')
theorem Ow {i:Nat} {N:Option Tmp} {oi:Oper} {v:Value} {fuel:Nat} {l:Array Bool} {a:Act} {w:World} (l':Array Bool) (hi:ops[i]? = some oi) (hN:oi.dst=N) (hc:qfG md ops ds l l' i=true)
  (hQ:∀ c a w,Q (.panic c) (a.put oi.dst v) w→Q (.panic c) a w) (hy:YieldsIf P ops S oi v a) (hS:S w) {a':Act} (ha:a.put N v=a')
  (h:YO P md ops Q S ds fuel l' a' w):YO P md ops Q S ds (fuel+1) l a w:=by
 subst ha
 subst hN
 simp only [qfG,Bool.and_eq_true,beq_iff_eq] at hc
 obtain ⟨⟨⟨⟨⟨h1,h2⟩,h3⟩,h4⟩,h5⟩,h6⟩:=hc
 subst h6
 exact qce hi h1 h2 h3 h4 h5 hQ hy hS h
def anyB (md:Region.Mode) (ops:Array Oper) (l l':Array Bool) (i:Nat):Bool :=
 Region.noSelect ops&&Region.free md ops l i&&(Region.ready md ops l).contains i&&(l.setIfInBounds i true==l')
theorem ZS {i:Nat} {N:Option Tmp} {oi:Oper} {v:Value} {fuel:Nat} {l:Array Bool} {a:Act} {w:World} (l':Array Bool) (hi:ops[i]? = some oi) (hN:oi.dst=N) (hc:anyB md ops l l' i=true)
  (hQ:∀ c a w,Q (.panic c) (a.put oi.dst v) w→Q (.panic c) a w) (hy:Yields P ops oi v a) {a':Act} (ha:a.put N v=a')
  (h:YO P md ops Q S ds fuel l' a' w):YO P md ops Q S ds (fuel+1) l a w:=by
 subst ha
 subst hN
 simp only [anyB,Bool.and_eq_true,beq_iff_eq] at hc
 obtain ⟨⟨⟨h1,h2⟩,h3⟩,h6⟩:=hc
 subst h6
 exact qcA hi (Region.noSelect_spec h1) hQ fuel l a w (Region.free_spec hi h2) (by simpa using h3) hy h
def qdN (md:Region.Mode) (ops:Array Oper) (l l':Array Bool) (i:Nat):Bool:=(Region.ready md ops l==[i])&&(l.setIfInBounds i true==l')
theorem one_ {i:Nat} {N:Option Tmp} {oi:Oper} {fuel:Nat} {l:Array Bool} {a:Act} {w:World} (l':Array Bool) (hi:ops[i]? = some oi) (hN:oi.dst=N) (hc:qdN md ops l l' i=true) (hd:i ∉ ds)
  (h:∀ K:Act→World→Prop,Shut (∀ a' w',S w'→(S w'→YO P md ops Q S ds fuel l' a' w')→K a' w')→if Region.wanted oi (yielded ops a.tmps)=true then Oper.wp P oi a w K Q else K (a.put N undef) w) :
  YO P md ops Q S ds (fuel+1) l a w:=by
 subst hN
 simp only [qdN,Bool.and_eq_true,beq_iff_eq] at hc
 obtain ⟨h1,h2⟩:=hc
 subst h2
 exact UY h1 (by simp) (JQ.cons hi hd (fun K hK=>h K hK) JQ.nil)
theorem qez {l:Array Bool} {a:Act} {w:World} {n:Nat} (hr:(Region.ready md ops l==[])=true) (h:Q .normal a w):YO P md ops Q S ds n l a w:=qcd (by simpa using hr) h n
theorem two_ {i j:Nat} {Ni Nj:Option Tmp} {oi oj:Oper} {fuel:Nat} {l:Array Bool} {a:Act} {w:World} (li lj:Array Bool) (hi:ops[i]? = some oi) (hj:ops[j]? = some oj) (hNi:oi.dst=Ni) (hNj:oj.dst=Nj)
  (hc:(Region.ready md ops l==[i,j]&&l.setIfInBounds i true==li&&l.setIfInBounds j true==lj)=true) (hdi:i ∉ ds) (hdj:j ∉ ds)
  (h1:∀ K:Act→World→Prop,Shut (∀ a' w',S w'→(S w'→YO P md ops Q S ds fuel li a' w')→K a' w')→if Region.wanted oi (yielded ops a.tmps)=true then Oper.wp P oi a w K Q else K (a.put Ni undef) w)
  (h2:∀ K:Act→World→Prop,Shut (∀ a' w',S w'→(S w'→YO P md ops Q S ds fuel lj a' w')→K a' w')→if Region.wanted oj (yielded ops a.tmps)=true then Oper.wp P oj a w K Q else K (a.put Nj undef) w) :
  YO P md ops Q S ds (fuel+1) l a w:=by
 subst hNi
 subst hNj
 simp only [Bool.and_eq_true,beq_iff_eq] at hc
 obtain ⟨⟨h3,h4⟩,h5⟩:=hc
 subst h4
 subst h5
 exact UY h3 (by simp) (JQ.cons hi hdi (fun K hK=>h1 K hK) (JQ.cons hj hdj (fun K hK=>h2 K hK) JQ.nil))
def UQ:Act→List (Tmp × Value)→Act
 | a,[]=>a
 | a,(n,v)::r=>UQ (a.put (some n) v) r
theorem qnY {σ:Type} {fuel:Nat} {l:Array Bool} {a:Act} {w:World} (fuel':Nat) (l':Array Bool) (ns:σ→List (Tmp × Value)) (F:σ→World→Prop)
  (hcont:∀ s w',F s w'→YO P md ops Q S ds fuel' l' (UQ a (ns s)) w')
  (h:(∀ s w',F s w'→YO P md ops Q S ds fuel' l' (UQ a (ns s)) w')→YO P md ops Q S ds fuel l a w):YO P md ops Q S ds fuel l a w:=h hcont
theorem GE {fuel:Nat} {l:Array Bool} {a a':Act} {w:World} (ha:a=a') (h:YO P md ops Q S ds fuel l a' w):YO P md ops Q S ds fuel l a w:=by
 subst ha
 exact h
theorem qjx {oi:Oper} {N:Option Tmp} {a:Act} {w:World} {K:Act→World→Prop} (f:FuncId) (args:Array Value) (hw:Region.wanted oi (yielded ops a.tmps)=true) (hN:oi.dst=N) (hrun:(execOp a.eval oi).run P w = .ok (.enter f args) w)
  (h:Calls P f args w fun e w' => ∃ v,e = .returned v∧K (a.put N v) w'):if Region.wanted oi (yielded ops a.tmps)=true then Oper.wp P oi a w K Q else K (a.put N undef) w:=by
 rw [if_pos hw]
 subst hN
 unfold Oper.wp
 rw [hrun,Oper.upon_enter]
 refine h.mono fun e w'' hh => ?_
 obtain ⟨v,rfl,hk⟩:=hh
 exact hk
theorem Xk {f : FuncId} {fn : Func} (hf : P.funcs[f]? = some fn) (hname : (fn.name == "runtime.NumGoroutine") = false) (hb : fn.body.isSome = true) (args : Array Value) (w : World) : (callFunc f args).run P w = .ok (.enter f args) w := by
 have h1 : fn.name ≠ "runtime.NumGoroutine" := by simpa using hname
 obtain ⟨c,hc⟩:=Option.isSome_iff_exists.1 hb
 simp [callFunc,hf,h1,hc]
theorem qb2 {oi : Oper} {N : Option Tmp} {a : Act} {w : World} {K : Act → World → Prop} {f : FuncId} {fn : Func} {aas : Array Operand} {ts : Array TypeId} (hf : P.funcs[f]? = some fn) (hname : (fn.name == "runtime.NumGoroutine") = false) (hb : fn.body.isSome = true) (args : Array Value)
  (hw:Region.wanted oi (yielded ops a.tmps)=true) (hN:oi.dst=N) (hop:oi.op = .call { callee:=.value (.func f),args:=aas,argTypes:=ts }) (hargs:aas.map a.eval=args)
  (h:Calls P f args w fun e w' => ∃ v,e = .returned v∧K (a.put N v) w'):if Region.wanted oi (yielded ops a.tmps)=true then Oper.wp P oi a w K Q else K (a.put N undef) w:=by
 refine qjx f args hw hN ?_ h
 have he:=Xk hf hname hb args w
 unfold execOp
 simp [hop,resolve,Deferred.ofValue,invoke,Act.eval,hargs,he]
theorem Yd {rest : List Oper} {oi : Oper} {a : Act} {w : World} (N : Option Tmp) (hd : oi.dst = N) (hg : oi.guard = none) {f : FuncId} {fn : Func} {aas : Array Operand} {ts : Array TypeId} (hf : P.funcs[f]? = some fn) (hname : (fn.name == "runtime.NumGoroutine") = false) (hb : fn.body.isSome = true) (args : Array Value)
  (hop:oi.op = .call { callee:=.value (.func f),args:=aas,argTypes:=ts }) (hargs:aas.map a.eval=args)
  (h:Calls P f args w fun e w' => ∃ v,e = .returned v∧wpList P ops Q rest (a.put N v) w'):wpList P ops Q (oi::rest) a w:=by
 refine wpList_plain hg fun K hK => ?_
 have he:=Xk hf hname hb args w
 have hrun:(execOp a.eval oi).run P w = .ok (.enter f args) w:=by
  unfold execOp
  simp [hop,resolve,Deferred.ofValue,invoke,Act.eval,hargs,he]
 unfold Oper.wp
 rw [hrun,Oper.upon_enter]
 refine h.mono fun e w'' hh => ?_
 obtain ⟨v,rfl,hk⟩:=hh
 subst hd
 exact hK _ _ hk
theorem qgY {oi:Oper} {N:Option Tmp} {a:Act} {w w1:World} {v:Value} {K:Act→World→Prop} (hw:Region.wanted oi (yielded ops a.tmps)=true) (hN:oi.dst=N) (hrun:(execOp a.eval oi).run P w = .ok (.value v) w1)
  (h:K (a.put N v) w1):if Region.wanted oi (yielded ops a.tmps)=true then Oper.wp P oi a w K Q else K (a.put N undef) w:=by
 rw [if_pos hw]
 subst hN
 unfold Oper.wp
 rw [hrun]
 exact h
theorem qkq {oi:Oper} {a:Act} {w w1:World} {K:Act→World→Prop} (hw:Region.wanted oi (yielded ops a.tmps)=true) (hN:oi.dst=none) (hrun:(execOp a.eval oi).run P w = .ok .skip w1)
  (h:K a w1):if Region.wanted oi (yielded ops a.tmps)=true then Oper.wp P oi a w K Q else K (a.put none undef) w:=by
 rw [if_pos hw]
 unfold Oper.wp
 rw [hrun]
 show K (a.put oi.dst undef) w1
 rw [hN]
 exact h
theorem Yn (n:Int):IntKind.i64.wrap n=Go.RowKit.wrap64 n:=by unfold Go.RowKit.wrap64;exact IntKind.wrap_i64 n
theorem YA (n:Int):IntKind.i32.wrap n=Go.RowKit.wrap32 n:=by unfold Go.RowKit.wrap32;exact IntKind.wrap_i32 n
end
end Go.Proofs.YtmhomdohhihlcaaW.PrintLast
namespace Go.Proofs.YtmhomdohhihlcaaW.PrintLast
open Go.Proofs.YtmhomdohhihlcaaW.PrintWords (Q1)
def Wz (md:Region.Mode) (o:Oper):List Nat:=(o.after.toList.filter (fun e=>Region.binds md e)).map (fun e=>e.on)
def qc9 (md:Region.Mode) (ops:Array Oper) (i:Nat) (oi:Oper):List Nat:=(List.range ops.size).filter fun j => !(j==i)&&match ops[j]? with
 | some oj => !(oj.after.any (fun e=>Region.binds md e&&e.on==i)||oi.apart ops oj)
 | none=>false
def rtab (md:Region.Mode) (ops:Array Oper):Bool × List (List Nat × List Nat):=(Region.noSelect ops,(List.range ops.size).map fun i=>match ops[i]? with
 | some o=>(Wz md o,qc9 md ops i o)
 | none=>([],[]))
def Ub (T:List (List Nat × List Nat)) (l:List Bool) (i:Nat):Bool:=!l.getD i true&&match T[i]? with
 | some r=>r.1.all (fun j=>l.getD j false)
 | none=>false
def qau (T:List (List Nat × List Nat)) (l:List Bool):List Nat:=(List.range T.length).filter (Ub T l)
def qeC (T:List (List Nat × List Nat)) (l:List Bool) (i:Nat):Bool:=match T[i]? with
 | some r=>r.2.all (fun j=>l.getD j true)
 | none=>false
def qa3 (T:List (List Nat × List Nat)) (l:List Bool):Bool:=(List.range T.length).all fun j => !l.getD j false||match T[j]? with
 | some r=>r.1.all (fun k=>l.getD k false)
 | none=>true
def qat (T:List (List Nat × List Nat)) (i:Nat):Nat→Nat→Bool
 | 0,_=>false
 | fuel+1,d=>match T[d]? with
  | some r=>r.1.any fun j=>j==i||qat T i fuel j
  | none=>false
def qhV (T:List (List Nat × List Nat)) (l:List Bool) (ds:List Nat) (i:Nat):Bool:=ds.all fun d=>l.getD d true||qat T i T.length d
section
variable {md:Region.Mode} {ops:Array Oper} {T:Bool × List (List Nat × List Nat)} {l l' li lj lk:Array Bool} {ds:List Nat} {i j k:Nat}
theorem gd (l:Array Bool) (j:Nat) (b:Bool):l.getD j b=l.toList.getD j b:=by simp [Array.getD_eq_getD_getElem?,List.getD_eq_getElem?_getD]
theorem qcN (o:Oper) (p:Nat→Bool):o.after.all (fun e => !Region.binds md e||p e.on)=(Wz md o).all p:=by
 unfold Wz
 rw [← Array.all_toList]
 induction o.after.toList with
 | nil=>rfl
 | cons e r ih =>
  rw [List.all_cons,ih,List.filter_cons]
  cases h:Region.binds md e<;>simp
theorem qiD (o:Oper) (p:Nat→Bool):o.after.any (fun e=>Region.binds md e&&p e.on)=(Wz md o).any p:=by
 unfold Wz
 rw [← Array.any_toList]
 induction o.after.toList with
 | nil=>rfl
 | cons e r ih =>
  rw [List.any_cons,ih,List.filter_cons]
  cases h:Region.binds md e<;>simp
theorem Uc:(rtab md ops).2.length=ops.size:=by simp [rtab]
theorem WB {o:Oper} (h:ops[i]? = some o):(rtab md ops).2[i]? = some (Wz md o,qc9 md ops i o):=by
 have hi:=(Array.getElem?_eq_some_iff.1 h).1
 unfold rtab
 rw [List.getElem?_map,List.getElem?_range hi,Option.map_some,h]
theorem WA (h:ops[i]? = none):(rtab md ops).2[i]? = none:=by
 have hi:ops.size≤i:=Array.getElem?_eq_none_iff.1 h
 exact List.getElem?_eq_none (by rw [Uc];exact hi)
theorem qgO:Ub (rtab md ops).2 l.toList i=(!l.getD i true&&((ops[i]?).map (·.after.all fun e => !Region.binds md e||l.getD e.on false)).getD false):=by
 unfold Ub
 rw [gd]
 cases h:ops[i]? with
 | none=>rw [WA h];rfl
 | some o =>
  rw [WB h]
  simp only [Option.map_some,Option.getD_some]
  rw [← qcN]
  simp only [gd]
theorem qac:Region.ready md ops l=qau (rtab md ops).2 l.toList:=by
 unfold Region.ready qau
 rw [Uc]
 refine List.filter_congr (fun i _ => ?_)
 rw [qgO]
theorem qhr:Region.free md ops l i=qeC (rtab md ops).2 l.toList i:=by
 unfold Region.free qeC
 cases h:ops[i]? with
 | none=>rw [WA h]
 | some oi =>
  rw [WB h]
  simp only [qc9]
  rw [List.all_filter]
  congr 1
  funext j
  rw [gd]
  cases hj:ops[j]? with
  | none=>cases (j==i)<;>cases (l.toList.getD j true)<;>simp
  | some oj =>
   cases (j==i)<;>cases (l.toList.getD j true)<;>cases (oj.after.any (fun e=>Region.binds md e&&e.on==i)||oi.apart ops oj)<;>simp_all
theorem qio:Region.closedB md ops l=qa3 (rtab md ops).2 l.toList:=by
 unfold Region.closedB qa3
 rw [Uc]
 congr 1
 funext j
 rw [gd]
 cases h:ops[j]? with
 | none=>rw [WA h]
 | some o =>
  rw [WB h]
  simp only
  rw [← qcN]
  simp only [gd]
theorem qfh:∀ (fuel d:Nat),Region.reachB md ops i fuel d=qat (rtab md ops).2 i fuel d
 | 0,_=>rfl
 | fuel+1,d=>by
  unfold Region.reachB qat
  cases h:ops[d]? with
  | none=>rw [WA h]
  | some o =>
   rw [WB h]
   simp only
   rw [← qiD]
   congr 1
   funext e
   rw [qfh fuel]
theorem qmz:Region.lastB md ops l ds i=qhV (rtab md ops).2 l.toList ds i:=by
 unfold Region.lastB qhV
 rw [Uc]
 congr 1
 funext d
 rw [gd,qfh]
theorem qaO (h:Ub T.2 l.toList i=true) (hT:rtab md ops=T):(Region.ready md ops l).contains i=true:=by
 subst hT
 rw [qac]
 unfold qau
 rw [List.contains_iff_mem,List.mem_filter,List.mem_range]
 refine ⟨?_,h⟩
 unfold Ub at h
 rw [Bool.and_eq_true] at h
 cases hq:(rtab md ops).2[i]? with
 | none=>rw [hq] at h;simp at h
 | some r=>exact (List.getElem?_eq_some_iff.1 hq).1
theorem qb7 (h:(l.toList.set i true==l'.toList)=true):(l.setIfInBounds i true==l')=true:=by
 rw [beq_iff_eq] at h ⊢
 apply Array.ext'
 rw [Array.toList_setIfInBounds]
 exact h
def anyT (T:Bool × List (List Nat × List Nat)) (l l':List Bool) (i:Nat):Bool:=T.1&&qeC T.2 l i&&Ub T.2 l i&&(l.set i true==l')
theorem Zs (hT:rtab md ops=T) (h:anyT T l.toList l'.toList i=true):anyB md ops l l' i=true:=by
 simp only [anyT,Bool.and_eq_true] at h
 obtain ⟨⟨⟨h1,h2⟩,h3⟩,h4⟩:=h
 have h5:=qaO h3 hT
 have h6:=qb7 h4
 subst hT
 simp only [anyB,Bool.and_eq_true]
 exact ⟨⟨⟨h1,by rw [qhr];exact h2⟩,h5⟩,h6⟩
def qku (T:Bool × List (List Nat × List Nat)) (ds:List Nat) (l l':List Bool) (i:Nat):Bool:=T.1&&qeC T.2 l i&&Ub T.2 l i&&qa3 T.2 l&&qhV T.2 l ds i&&(l.set i true==l')
theorem qm0 (hT:rtab md ops=T) (h:qku T ds l.toList l'.toList i=true):qfG md ops ds l l' i=true:=by
 simp only [qku,Bool.and_eq_true] at h
 obtain ⟨⟨⟨⟨⟨h1,h2⟩,h3⟩,h4⟩,h5⟩,h6⟩:=h
 have h7:=qaO h3 hT
 have h8:=qb7 h6
 subst hT
 simp only [qfG,Bool.and_eq_true]
 exact ⟨⟨⟨⟨⟨h1,by rw [qhr];exact h2⟩,h7⟩,by rw [qio];exact h4⟩,by rw [qmz];exact h5⟩,h8⟩
theorem O8 (hT:rtab md ops=T) (h:(qau T.2 l.toList==[i]&&l.toList.set i true==l'.toList)=true):qdN md ops l l' i=true:=by
 simp only [Bool.and_eq_true] at h
 obtain ⟨h1,h2⟩:=h
 subst hT
 simp only [qdN,Bool.and_eq_true]
 exact ⟨by rw [qac];exact h1,qb7 h2⟩
theorem qkv (hT:rtab md ops=T) (h:(qau T.2 l.toList==[i,j]&&l.toList.set i true==li.toList&&l.toList.set j true==lj.toList)=true):(Region.ready md ops l==[i,j]&&l.setIfInBounds i true==li&&l.setIfInBounds j true==lj)=true:=by
 simp only [Bool.and_eq_true] at h ⊢
 obtain ⟨⟨h1,h2⟩,h3⟩:=h
 subst hT
 exact ⟨⟨by rw [qac];exact h1,qb7 h2⟩,qb7 h3⟩
theorem qa4 (hT:rtab md ops=T) (h:(qau T.2 l.toList==[])=true):(Region.ready md ops l==[])=true:=by
 subst hT
 rw [qac]
 exact h
def upM (B:List Nat) (d:Nat):List Nat→Nat
 | []=>0
 | n::r=>(2 ^ n ||| (if n<d then B.getD n 0 else 0)) ||| upM B d r
def Ud (T:List (List Nat × List Nat)) (B:List Nat):Bool:=(List.range T.length).all fun d=>match T[d]? with
 | some r=>(B.getD d 0 ||| upM B d r.1)==upM B d r.1
 | none=>false
theorem qh1 {B:List Nat} {d i:Nat}:∀ {ns:List Nat},(upM B d ns).testBit i=true → ∃ n∈ns,n=i∨(n<d∧(B.getD n 0).testBit i=true)
 | [],h=>by simp [upM] at h
 | n::r,h=>by
  unfold upM at h
  rw [Nat.testBit_or,Nat.testBit_or,Bool.or_eq_true,Bool.or_eq_true] at h
  rcases h with (h|h)|h
  ·
   rw [Nat.testBit_two_pow] at h
   exact ⟨n,List.mem_cons_self,.inl (by simpa using h)⟩
  ·
   by_cases hn:n<d
   ·
    rw [if_pos hn] at h
    exact ⟨n,List.mem_cons_self,.inr ⟨hn,h⟩⟩
   rw [if_neg hn] at h
   simp at h
  obtain ⟨m,hm,h2⟩:=qh1 h
  exact ⟨m,List.mem_cons_of_mem _ hm,h2⟩
theorem qcO {T:List (List Nat × List Nat)} {B:List Nat} (hB:Ud T B=true):∀ (fuel d:Nat),d<fuel→d<T.length→(B.getD d 0).testBit i=true→qat T i fuel d=true
 | 0,d,h,_,_=>by omega
 | fuel+1,d,h,hd,hb=>by
  have h1:=List.all_eq_true.1 hB d (List.mem_range.2 hd)
  cases hr:T[d]? with
  | none=>rw [hr] at h1;simp at h1
  | some r =>
   rw [hr] at h1
   simp only [beq_iff_eq] at h1
   have h2:(upM B d r.1).testBit i=true:=by rw [← h1,Nat.testBit_or,hb,Bool.true_or]
   obtain ⟨n,hn,h3⟩:=qh1 h2
   unfold qat
   rw [hr]
   simp only
   rw [List.any_eq_true]
   refine ⟨n,hn,?_⟩
   rcases h3 with rfl|⟨h4,h5⟩
   ·
    simp
   rw [qcO hB fuel n (by omega) (by omega) h5,Bool.or_true]
def qnZ (T:List (List Nat × List Nat)) (B:List Nat) (l:List Bool) (ds:List Nat) (i:Nat):Bool:=ds.all fun d=>l.getD d true||(decide (d<T.length)&&(B.getD d 0).testBit i)
def qn2 (T:Bool × List (List Nat × List Nat)) (B:List Nat) (ds:List Nat) (l l':List Bool) (i:Nat):Bool:=T.1&&qeC T.2 l i&&Ub T.2 l i&&qa3 T.2 l&&qnZ T.2 B l ds i&&(l.set i true==l')
theorem JI {B:List Nat} (hT:rtab md ops=T) (hB:Ud T.2 B=true) (h:qn2 T B ds l.toList l'.toList i=true):qfG md ops ds l l' i=true:=by
 refine qm0 hT ?_
 simp only [qn2,qku,Bool.and_eq_true] at h ⊢
 obtain ⟨⟨⟨⟨⟨h1,h2⟩,h3⟩,h4⟩,h5⟩,h6⟩:=h
 refine ⟨⟨⟨⟨⟨h1,h2⟩,h3⟩,h4⟩,?_⟩,h6⟩
 unfold qnZ at h5
 unfold qhV
 rw [List.all_eq_true] at h5 ⊢
 intro d hd
 have h7:=h5 d hd
 rw [Bool.or_eq_true,Bool.and_eq_true,decide_eq_true_eq] at h7
 rcases h7 with h7|⟨h8,h9⟩
 ·
  rw [h7,Bool.true_or]
 rw [qcO hB _ d h8 h8 h9,Bool.or_true]
theorem WC {P:Program} {Q:Exit→Act→World→Prop} {S:World→Prop} {n:Nat} {a:Act} {w:World} {B:List Nat} (hT:rtab md ops=T) (hB:Ud T.2 B=true) (h:Q1 (rtab md ops=T)→Q1 (Ud T.2 B=true)→YO P md ops Q S ds n l a w):YO P md ops Q S ds n l a w:=h ⟨hT⟩ ⟨hB⟩
end
def WR:Code→Nat→Option (Array Oper)
 | .region id ops _,k=>if id==k then some ops else none
 | .seq a b,k=>match WR a k with
  | some o=>some o
  | none=>WR b k
 | .cond _ a b,k=>match WR a k with
  | some o=>some o
  | none=>WR b k
 | .block _ c,k=>WR c k
 | .loop c,k=>WR c k
 | .scope c,k=>WR c k
 | .rangeFunc _ _ a b,k=>match WR a k with
  | some o=>some o
  | none=>WR b k
 | _,_=>none
def qhW (f:Func) (k:Nat):Array Oper:=((f.body.bind fun c=>WR c k)).getD #[]
end Go.Proofs.YtmhomdohhihlcaaW.PrintLast
namespace Go.Proofs.YtmhomdohhihlcaaW.PrintWords
open Go.RowKit
namespace Kd
def tag {α:Type} (f:Nat→Nat) (d:Kd α):Kd (α × Nat) where
 sz:=d.sz
 E:=d.E
 K:=fun w x cs=>d.K w x.1 cs
 M:=fun w base ok x cs=>d.M w base (fun k=>ok k∧f k=x.2) x.1 cs
 K_len:=fun h=>d.K_len h
 K_one:=fun h=>d.K_one h
 K_below:=fun hb h=>d.K_below hb h
 K_of_M:=fun h=>d.K_of_M h
 M_mono:=fun hok h=>d.M_mono (fun k hk=>⟨hok k hk.1,hk.2⟩) h
 M_bound:=fun h=>d.M_mono (fun _ hk=>⟨⟨hk.1.1,hk.2⟩,hk.1.2⟩) (d.M_bound h)
 M_move:=fun hm h=>d.M_move (fun k hk=>hm k hk.1) h
 M_lower:=fun hb h=>d.M_lower hb h
def raw (sz:Nat):Kd (List Value) where
 sz:=sz
 E:=[]
 K:=fun _ x cs=>cs=x∧cs.length=sz ∧ ∀ u∈cs,u.oneCell'=true
 M:=fun _ _ _ x cs=>cs=x∧cs.length=sz ∧ ∀ u∈cs,u.oneCell'=true
 K_len:=fun h=>h.2.1
 K_one:=fun h=>h.2.2
 K_below:=fun _ h=>h
 K_of_M:=fun h=>h
 M_mono:=fun _ h=>h
 M_bound:=fun h=>h
 M_move:=fun _ h=>h
 M_lower:=fun _ h=>h
def S {α:Type} (d:Kd α) (e:Nat) (w:World) (base:Nat) (ok:Nat→Prop) (v:Value) (xs:List α):Prop:=∃ f,(tag f d).R e w base ok v xs.zipIdx
section
variable {α β:Type} {d:Kd α} {d':Kd β} {e e':Nat} {w w1 W:World} {base b:Nat} {ok ok' okv oku:Nat→Prop} {u v:Value} {xs:List α} {ys:List β}
theorem qkX (hE:d.E=[]) (h:d.R e w base ok v xs):d.R e w base (fun k=>some k=v.ownBlock) v xs:=by
 obtain ⟨h0,inner,ho,hr⟩:=h
 refine ⟨fun k hk=>hk.symm,inner,ho,hr.imp_ (fun p c hp=>d.M_mono (fun k hk => ?_) (d.M_bound hp))⟩
 obtain ⟨_,_,_,q,hq,_⟩:=hk
 rw [hE] at hq
 cases hq
end
def gap {α:Type} (f:Nat→Nat) (d:Kd α) (i:Nat) (c:List Value):Kd (α × Nat) where
 sz:=d.sz
 E:=d.E
 K:=fun w x cs=>(x.2=i→cs=c∧cs.length=d.sz ∧ ∀ u∈cs,u.oneCell'=true)∧(x.2≠i→d.K w x.1 cs)
 M:=fun w base ok x cs=>(x.2=i→cs=c∧cs.length=d.sz ∧ ∀ u∈cs,u.oneCell'=true)∧(x.2≠i→d.M w base (fun k=>ok k∧f k=x.2) x.1 cs)
 K_len:=fun {w x cs} h=>by
  by_cases hx:x.2=i
  ·
   exact (h.1 hx).2.1
  exact d.K_len (h.2 hx)
 K_one:=fun {w x cs} h=>by
  by_cases hx:x.2=i
  ·
   exact (h.1 hx).2.2
  exact d.K_one (h.2 hx)
 K_below:=fun hb h=>⟨h.1,fun hx=>d.K_below hb (h.2 hx)⟩
 K_of_M:=fun h=>⟨h.1,fun hx=>d.K_of_M (h.2 hx)⟩
 M_mono:=fun hok h=>⟨h.1,fun hx=>d.M_mono (fun k hk=>⟨hok k hk.1,hk.2⟩) (h.2 hx)⟩
 M_bound:=fun h=>⟨h.1,fun hx=>d.M_mono (fun _ hk=>⟨⟨hk.1.1,hk.2⟩,hk.1.2⟩) (d.M_bound (h.2 hx))⟩
 M_move:=fun hm h=>⟨h.1,fun hx=>d.M_move (fun k hk=>hm k hk.1) (h.2 hx)⟩
 M_lower:=fun hb h=>⟨h.1,fun hx=>d.M_lower hb (h.2 hx)⟩
def H {α:Type} (d:Kd α) (e:Nat) (w:World) (base:Nat) (ok:Nat→Prop) (v:Value) (xs:List α) (i:Int) (oki:Nat→Prop) (c:List Value):Prop :=
 (∀ k,oki k→ok k) ∧ ∃ f,(gap f d i.toNat c).R e w base (fun k=>ok k ∧ ¬ oki k) v xs.zipIdx
end Kd
end Go.Proofs.YtmhomdohhihlcaaW.PrintWords
namespace Go.Proofs.YtmhomdohhihlcaaW.PrintWords
open Go.RowKit
namespace Kd
structure Heap {α:Type} (d:Kd α):Prop where
 K:∀ {w w1:World} {x:α} {cs:List Value},(∀ k,k<w.heap.size→w1.heap[k]? = w.heap[k]?)→d.K w x cs→d.K w1 x cs
theorem qpl {w w1:World} (hb:∀ k,k<w.heap.size→w1.heap[k]? = w.heap[k]?) {a:Addr} {v:Value} (h:w.cell? a=some v):w1.cell? a=some v:=by
 have:=hb a.block (World.block_lt_of_cell? w a h)
 simpa [World.cell?,this] using h
end Kd
end Go.Proofs.YtmhomdohhihlcaaW.PrintWords
namespace Go.Proofs.YtmhomdohhihlcaaW.PrintWords
open Go.RowKit
def Kept (w W:World) (S:Nat→Prop):Prop:=w.heap.size≤W.heap.size ∧ ∀ i,i<w.heap.size → ¬ S i→W.heap[i]? = w.heap[i]?
section
variable {w W W2:World} {S S2 S':Nat→Prop}
theorem Kept.refl (w:World) (S:Nat→Prop):Kept w w S:=⟨Nat.le_refl _,fun _ _ _=>rfl⟩
theorem Kept.of_below (h:Below w.heap.size w W) (S:Nat→Prop):Kept w W S:=⟨h.size,fun i hi _=>h.block i hi⟩
theorem Kept.mono (h:Kept w W S) (hs:∀ k,S k→S' k):Kept w W S':=⟨h.1,fun i hi hn=>h.2 i hi (fun hk=>hn (hs i hk))⟩
theorem Kept.then_ (h:Kept w W S) (k:Kept W W2 S2) (hs:∀ k,S2 k→S k∨w.heap.size≤k):Kept w W2 S :=
 ⟨Nat.le_trans h.1 k.1,fun i hi hn=>(k.2 i (Nat.lt_of_lt_of_le hi h.1) (fun h2=>(hs i h2).elim hn (fun h3=>by omega))).trans (h.2 i hi hn)⟩
theorem Kept.of_grown {row:Option Nat} (hg:W.grownBy W2 row) (h:Kept w W S) (hr:∀ k,row=some k→S k∨w.heap.size≤k):Kept w W2 S :=
 h.then_ (S2:=fun k=>row=some k) ⟨hg.size,fun i hi hn=>hg.block i hi (fun he=>hn he.symm)⟩ hr
theorem Kept.below (h:Kept w W S) (hb:Below W.heap.size W W2):Kept w W2 S:=h.then_ (Kept.of_below hb (fun _=>False)) (fun _ hk=>hk.elim)
theorem Kept.alloc (h:Kept w W S) (o:Obj):Kept w (W.alloc o) S:=h.below (Q2 (Below.refl _ _) o)
theorem Kept.setCell (h:Kept w W S) {p:Addr} (hp:S p.block∨w.heap.size≤p.block) (u:Value):Kept w (W.setCell p u) S :=
 h.then_ (S2:=fun k=>k=p.block) ⟨by simp [World.setCell],fun i _ hn=>Below.heap_setCell W p u i hn⟩ (fun k hk=>by rw [hk];exact hp)
theorem GM {g:Nat} {o:Obj} (hb:W.heap[g]? = some o) (hk:Kept W W2 S) (hne:¬ S g):W2.heap[g]? = some o:=(hk.2 g (QL hb) hne).trans hb
theorem Wo {a:Addr} {v:Value} (hc:W.cell? a=some v) (hk:Kept W W2 S) (hne:¬ S a.block):W2.cell? a=some v:=by
 have:=hk.2 a.block (World.block_lt_of_cell? W a hc) hne
 simpa [World.cell?,this] using hc
end
namespace Kd
section
variable {α:Type} {d:Kd α} {e base n c:Nat} {ok oki S S2:Nat→Prop} {w w0 W W1 W2:World} {v:Value} {A:Option Addr} {xs:List α} {i:Int} {cs:List Value}
theorem R_kept (h:d.R e W base ok v xs) (hk:Kept W W2 S) (hne:∀ k,ok k → ¬ S k):d.R e W2 base ok v xs:=qbP h (fun k ho hlt=>hk.2 k hlt (hne k ho))
end
end Kd
end Go.Proofs.YtmhomdohhihlcaaW.PrintWords
namespace Go.Proofs.YtmhomdohhihlcaaW.PrintWords
open Go.RowKit
def Foot (P:World→Prop) (W:World) (ok:Nat→Prop):Prop:=∀ W':World,(∀ k,ok k→k<W.heap.size→W'.heap[k]? = W.heap[k]?)→P W'
theorem qlH {W W1:World} {k:Nat} (h:W1.heap[k]? = W.heap[k]?) (hlt:k<W.heap.size):k<W1.heap.size:=by
 rw [Array.getElem?_eq_getElem hlt] at h
 exact (Array.getElem?_eq_some_iff.1 h).1
namespace Foot
variable {P Q:World→Prop} {W W1:World} {ok ok':Nat→Prop}
theorem now (h:Foot P W ok):P W:=h W (fun _ _ _=>rfl)
theorem mono (h:Foot P W ok) (hok:∀ k,ok k→ok' k):Foot P W ok':=fun W' hW=>h W' (fun k hk hlt=>hW k (hok k hk) hlt)
theorem bound (h:Foot P W ok):Foot P W (fun k=>ok k∧k<W.heap.size):=fun W' hW=>h W' (fun k hk hlt=>hW k ⟨hk,hlt⟩ hlt)
theorem step (h:Foot P W ok) (hm:∀ k,ok k→k<W.heap.size→W1.heap[k]? = W.heap[k]?):Foot P W1 ok:=fun W' hW=>h W' (fun k hk hlt=>(hW k hk (qlH (hm k hk hlt) hlt)).trans (hm k hk hlt))
theorem imp (h:Foot P W ok) (hi:∀ W',P W'→Q W'):Foot Q W ok:=fun W' hW=>hi W' (h W' hW)
theorem old (h:Foot P W ok) (hb:Below W.heap.size W W1):Foot P W1 (fun k=>ok k∧k<W.heap.size):=(h.bound).step (fun k _ hlt=>hb.block k hlt)
end Foot
namespace Kd
def F {α:Type} (d:Kd α) (W:World) (ok:Nat→Prop) (A:Option Addr) (n:Nat) (xs:List α):Prop:=Foot (fun W=>d.C W A n xs) W ok
def FK {α:Type} (d:Kd α) (W:World) (ok:Nat→Prop) (x:α) (c:List Value):Prop:=Foot (fun W=>d.K W x c) W ok
section
variable {α β:Type} {d:Kd α} {e base n n' cc g N:Nat} {ok ok' okp S:Nat→Prop} {w w0 w1 W W1:World} {A A':Option Addr} {u v v1:Value} {xs:List α} {xs':List β} {d':Kd β} {x:α} {c:List Value}
theorem F_now (h:F d W ok A n xs):d.C W A n xs:=Foot.now h
theorem qi9 (h:F d W ok A n xs) (hok:∀ k,ok k→ok' k):F d W ok' A n xs:=Foot.mono h hok
theorem qn8 (h:F d W ok A n xs) (hm:∀ k,ok k→k<W.heap.size→W1.heap[k]? = W.heap[k]?):F d W1 ok A n xs:=Foot.step h hm
theorem qaZ (h:F d W ok A n xs) (hb:Below W.heap.size W W1):F d W1 ok A n xs:=qn8 h (fun k _ hlt=>hb.block k hlt)
theorem qkL (h:F d W ok A n xs) (o:Obj):F d (W.alloc o) ok A n xs:=qaZ h (Q2 (Below.refl _ _) o)
theorem qn7 (h:F d W ok A n xs):F d W.drew ok A n xs:=qaZ h (Ym (Below.refl _ _))
theorem qkM (h:F d W ok A n xs) (m:Nat):F d (W.drewN m) ok A n xs:=qaZ h (Q0 (Below.refl _ _) m)
theorem qpG (d:Kd α) (W:World) (ok:Nat→Prop):F d W ok none ([]:List α).length []:=fun W' _=>C_nil d W'
theorem qi8 (h:F d W ok A n xs) (hbase:∀ k,v.ownBlock=some k→W.heap.size≤k) (hb:Below W.heap.size W W1):F d W1 (fun k=>ok k∧some k≠v.ownBlock) A n xs :=
 qi9 (Foot.old h hb) (fun k hk=>⟨hk.1,fun he=>by have:=hbase k he.symm;have:=hk.2;omega⟩)
theorem R_F (h:d.R e W base ok (.slice A n cc) xs):F d W ok A n xs:=fun W' hW=>by
 have h2:=R_reads' (qbP h hW)
 rw [h2.1]
 exact h2.2.2
theorem qfO (h:FK d W ok x c):d.K W x c:=Foot.now h
theorem qcT (h:FK d W ok x c) (hok:∀ k,ok k→ok' k):FK d W ok' x c:=Foot.mono h hok
theorem qeo (h:FK d W ok x c):FK d W (fun k=>ok k∧k<W.heap.size) x c:=Foot.bound h
theorem qg9 (h:FK d W ok x c) (hm:∀ k,ok k→k<W.heap.size→W1.heap[k]? = W.heap[k]?):FK d W1 ok x c:=Foot.step h hm
theorem qkK (h:d.M W base ok x c):FK d W ok x c:=fun _ hW=>d.K_of_M (qji h hW)
end
end Kd
end Go.Proofs.YtmhomdohhihlcaaW.PrintWords
namespace Go.Proofs.YtmhomdohhihlcaaW.PrintWords
open Go.RowKit
namespace Kd
def W9 (sz:Nat) (n:Nat) (inner:List Value):List (List Value):=(List.range n).map fun j=>(inner.drop (j*sz)).take sz
theorem JC (sz n:Nat) (inner:List Value):(W9 sz n inner).length=n:=by simp [W9]
theorem qin {sz n:Nat} {inner:List Value} {j:Nat} (hj:j<n):(W9 sz n inner)[j]? = some ((inner.drop (j*sz)).take sz):=by simp [W9,hj]
theorem WV {sz n:Nat} {inner:List Value} {j:Nat} {c:List Value} (h:(W9 sz n inner)[j]? = some c):c=(inner.drop (j*sz)).take sz:=by
 have hj:j<n:=by have:=(List.getElem?_eq_some_iff.1 h).1;rwa [JC] at this
 rw [qin hj] at h
 injection h with h
 exact h.symm
theorem qfl {α:Type} {Rr:α→List Value→Prop} {sz:Nat} {xs:List α} {inner:List Value} (h:Reps Rr sz xs inner) (hR:∀ x c,Rr x c→c.length=sz ∧ ∀ u∈c,u.oneCell'=true):Reps (fun x cs=>cs=x∧cs.length=sz ∧ ∀ u∈cs,u.oneCell'=true) sz (W9 sz xs.length inner) inner:=by
 refine ⟨by rw [JC];exact h.1,fun j p hj => ?_⟩
 have hjl:j<xs.length:=by have:=(List.getElem?_eq_some_iff.1 hj).1;rwa [JC] at this
 have hp:=WV hj
 exact ⟨hp.symm,hR _ _ (h.2 j _ (List.getElem?_eq_getElem hjl))⟩
section
variable {α:Type} {d:Kd α} {e base n cc g:Nat} {ok ok' okp S:Nat→Prop} {w w1 W W1:World} {A:Option Addr} {u v v1:Value} {xs:List α} {x:α} {c:List Value}
def N {α:Type} (d:Kd α) (e:Nat) (w:World) (base:Nat) (ok:Nat→Prop) (v:Value) (xs:List α):Prop :=
 (∀ k,v.ownBlock=some k→ok k) ∧ ∃ rows:List (List Value),rows.length=xs.length∧(raw d.sz).R e w base (fun k=>some k=v.ownBlock) v rows ∧ ∀ (j:Nat) (x:α) (c:List Value),xs[j]? = some x→rows[j]? = some c→FK d w (fun k=>ok k∧some k≠v.ownBlock) x c
theorem qiI {sz:Nat} {rows:List (List Value)} (h:(raw sz).R e w base ok v rows):(raw sz).R e w base (fun k=>some k=v.ownBlock) v rows:=qkX rfl h
theorem R_N (h:d.R e w base ok v xs):N d e w base ok v xs:=by
 obtain ⟨h0,inner,ho,hr⟩:=h
 refine ⟨h0,W9 d.sz xs.length inner,JC _ _ _,⟨fun k hk=>hk.symm,inner,by rw [JC];exact ho,qfl hr (fun x c hp=>⟨d.K_len (d.K_of_M hp),d.K_one (d.K_of_M hp)⟩)⟩,fun j x c hx hc => ?_⟩
 rw [WV hc]
 exact qkK (hr.2 j x hx)
theorem N_nil (d:Kd α) (e:Nat) (w:World) (base:Nat) (ok:Nat→Prop):N d e w base ok (.slice none 0 0) []:=R_N (R_nil _ _ _ _ _)
theorem N_mono (h:N d e w base ok v xs) (hok:∀ k,ok k→ok' k):N d e w base ok' v xs:=by
 obtain ⟨h0,rows,hl,hR,hf⟩:=h
 exact ⟨fun k hk=>hok k (h0 k hk),rows,hl,hR,fun j x c hx hc=>qcT (hf j x c hx hc) (fun k hk=>⟨hok k hk.1,hk.2⟩)⟩
theorem N_lt (h:N d e w base ok v xs):∀ k,v.ownBlock=some k→k<w.heap.size:=by
 obtain ⟨_,rows,_,hR,_⟩:=h
 exact R_lt hR
theorem N_base (h:N d e w base ok v xs):∀ k,v.ownBlock=some k→base≤k:=by
 obtain ⟨_,rows,_,hR,_⟩:=h
 exact R_base hR
theorem N_typed (h:N d e w base ok v xs):∀ k,v.ownBlock=some k → ∃ cells,w.heap[k]? = some (.cells cells e (0,0)):=by
 obtain ⟨_,rows,_,hR,_⟩:=h
 exact R_typed hR
theorem qkW (h:N d e w base ok v xs):N d e w base (fun k=>ok k∧k<w.heap.size) v xs:=by
 have hlt:=N_lt h
 obtain ⟨h0,rows,hl,hR,hf⟩:=h
 exact ⟨fun k hk=>⟨h0 k hk,hlt k hk⟩,rows,hl,hR,fun j x c hx hc=>qcT (qeo (hf j x c hx hc)) (fun k hk=>⟨⟨hk.1.1,hk.2⟩,hk.1.2⟩)⟩
theorem N_lower {base':Nat} (h:N d e w base ok v xs) (hb:base'≤base):N d e w base' ok v xs:=by
 obtain ⟨h0,rows,hl,hR,hf⟩:=h
 exact ⟨h0,rows,hl,R_lower hR hb,hf⟩
theorem qfQ (h:N d e w base ok v xs) (hm:∀ k,ok k→k<w.heap.size→w1.heap[k]? = w.heap[k]?):N d e w1 base ok v xs:=by
 obtain ⟨h0,rows,hl,hR,hf⟩:=h
 exact ⟨h0,rows,hl,qbP hR (fun k hk hlt=>hm k (h0 k hk.symm) hlt),fun j x c hx hc=>qg9 (hf j x c hx hc) (fun k hk hlt=>hm k hk.1 hlt)⟩
theorem qa0 (h:N d e w base ok v xs) (hb:Below w.heap.size w w1):N d e w1 base ok v xs:=qfQ h (fun k _ hk=>hb.block k hk)
theorem N_alloc (h:N d e w base ok v xs) (o:Obj):N d e (w.alloc o) base ok v xs:=qa0 h (Q2 (Below.refl _ _) o)
theorem N_drew (h:N d e w base ok v xs):N d e w.drew base ok v xs:=qa0 h (Ym (Below.refl _ _))
theorem N_drewN (h:N d e w base ok v xs) (m:Nat):N d e (w.drewN m) base ok v xs:=qa0 h (Q0 (Below.refl _ _) m)
theorem N_far (h:N d e w base ok v xs) {p:Addr} (hok:∀ k,ok k→k≠p.block) (u:Value):N d e (w.setCell p u) base ok v xs:=qfQ h (fun k ho _=>Below.heap_setCell w p u k (hok k ho))
theorem N_elder' (h:N d e W base ok v xs) (hbase:∀ k,u.ownBlock=some k→W.heap.size≤k) (hb:Below W.heap.size W w1):N d e w1 base (fun k=>ok k∧some k≠u.ownBlock) v xs :=
 N_mono (qa0 (qkW h) hb) (fun k hk=>⟨hk.1,fun he=>by have:=hbase k he.symm;have:=hk.2;omega⟩)
theorem N_slice (h:N d e w base ok v xs):∃ A c,v = .slice A xs.length c:=by
 obtain ⟨_,rows,hl,hR,_⟩:=h
 obtain ⟨A,c,he⟩:=R_slice hR
 exact ⟨A,c,by rw [he,hl]⟩
theorem N_reads' {n c:Nat} (h:N d e w base ok (.slice A n c) xs):n=xs.length∧n≤c∧d.C w A xs.length xs:=by
 obtain ⟨_,rows,hl,hR,hf⟩:=h
 obtain ⟨hn,hc,hC⟩:=R_reads' hR
 refine ⟨by omega,hc,?_⟩
 rw [hl] at hC
 refine ⟨rfl,hC.2.1,fun hp => ?_⟩
 obtain ⟨ad,he,hcell⟩:=hC.2.2 hp
 refine ⟨ad,he,fun j p hj => ?_⟩
 have hjl:j<rows.length:=by have:=(List.getElem?_eq_some_iff.1 hj).1;omega
 obtain ⟨c',hcl,hK,hcc⟩:=hcell j _ (List.getElem?_eq_getElem hjl)
 have hk:=qfO (hf j p _ hj (List.getElem?_eq_getElem hjl))
 refine ⟨c',hcl,?_,hcc⟩
 rw [show c'=rows[j] from hK.1]
 exact hk
theorem N_reads (h:N d e w base ok v xs):∃ A c,v = .slice A xs.length c∧xs.length≤c∧d.C w A xs.length xs:=by
 obtain ⟨A,c,rfl⟩:=N_slice h
 exact ⟨A,c,rfl,(N_reads' h).2⟩
theorem N_F {n:Nat} (h:N d e w base ok (.slice A n cc) xs):F d w ok A n xs:=fun W' hW=>by
 have h2:=N_reads' (qfQ h hW)
 rw [h2.1]
 exact h2.2.2
end
end Kd
end Go.Proofs.YtmhomdohhihlcaaW.PrintWords
namespace Go.Proofs.YtmhomdohhihlcaaW.PrintWords
open Go.RowKit
section
variable {P:Program} {d:Nat} {xs ys:Array Value} {f:Field} {fs:List Field} {a b:Value} {r s:Bool} {w:World}
theorem qeA (hn : (f.name == "_") = false) (ha : (part f.type xs f.offset).run P w = .ok a w) (hb : (part f.type ys f.offset).run P w = .ok b w) (he : (Op.equalIn d f.type a b).run P w = .ok r w) : (Op.eqFields d xs ys [f]).run P w = .ok r w := by
 have hn' : f.name ≠ "_" := by simpa using hn
 simp only [Op.eqFields,if_pos hn',Sem.run_bind,ha,hb,he,Result.andThen_ok]
 cases r<;>simp
theorem qjF (hn : (f.name == "_") = false) (ha : (part f.type xs f.offset).run P w = .ok a w) (hb : (part f.type ys f.offset).run P w = .ok b w) (he : (Op.equalIn d f.type a b).run P w = .ok r w) (hr : (Op.eqFields d xs ys fs).run P w = .ok s w) : (Op.eqFields d xs ys (f :: fs)).run P w = .ok (r && s) w := by
 have hn' : f.name ≠ "_" := by simpa using hn
 rw [Op.eqFields]
 simp only [if_pos hn',Sem.run_bind,ha,hb,he,Result.andThen_ok]
 cases r
 ·
  simp
 simpa using hr
theorem qjE {t:TypeId} {fs:Array Field} (hu:P.underlying t=some (.struct fs)) (hp:P.stoodInHeld t=false) (h:(Op.eqFields d xs ys fs.toList).run P w = .ok r w):(Op.equalIn (d+1) t (.agg xs) (.agg ys)).run P w = .ok r w:=by
 have hf:P.fieldsOf t=fs:=by simp [Program.fieldsOf,hu]
 rw [run_equalIn_struct (P:=P) w d t xs ys (by rw [hf];exact hu) hp,hf]
 exact h
end
end Go.Proofs.YtmhomdohhihlcaaW.PrintWords
namespace Go.Proofs.YtmhomdohhihlcaaW.PrintWords
theorem Reps.one {α:Type} {R:α→List Value→Prop} {ps:List α} {cs:List Value} {p:α} {v:Value} (hp:R p [v]) (h:Reps R 1 ps cs):Reps R 1 (p::ps) (v::cs):=by
 refine ⟨by simp [h.1],fun j q hq => ?_⟩
 cases j with
 | zero =>
  simp only [List.getElem?_cons_zero,Option.some.injEq] at hq
  subst hq
  simpa using hp
 | succ j =>
  simp only [List.getElem?_cons_succ] at hq
  have h1:=h.2 j q hq
  simpa [Nat.mul_one] using h1
theorem Reps.front {α:Type} {R:α→List Value→Prop} {size:Nat} {ps:List α} {cs c all:List Value} {p:α} (hp:R p c) (hc:c.length=size) (h:Reps R size ps cs) (ha:c++cs=all):Reps R size (p::ps) all:=by
 subst ha
 refine ⟨by rw [List.length_append,hc,h.1,List.length_cons,Nat.succ_mul,Nat.add_comm],fun j q hq => ?_⟩
 cases j with
 | zero =>
  simp only [List.getElem?_cons_zero,Option.some.injEq] at hq
  subst hq
  rw [Nat.zero_mul,List.drop_zero,List.take_append_of_le_length (by omega),List.take_of_length_le (by omega)]
  exact hp
 | succ j =>
  simp only [List.getElem?_cons_succ] at hq
  have h1:=h.2 j q hq
  rw [Nat.succ_mul,List.drop_append,List.drop_of_length_le (by rw [hc];exact Nat.le_add_left _ _),List.nil_append,hc,Nat.add_sub_cancel]
  exact h1
theorem Reps.c2 {α:Type} {R:α→List Value→Prop} {ps:List α} {cs:List Value} {p:α} {va vb:Value} (hp:R p [va,vb]) (h:Reps R 2 ps cs):Reps R 2 (p::ps) (va::vb::cs):=Reps.front hp rfl h rfl
theorem Reps.c3 {α:Type} {R:α→List Value→Prop} {ps:List α} {cs:List Value} {p:α} {va vb vc:Value} (hp:R p [va,vb,vc]) (h:Reps R 3 ps cs):Reps R 3 (p::ps) (va::vb::vc::cs):=Reps.front hp rfl h rfl
theorem Reps.c5 {α:Type} {R:α→List Value→Prop} {ps:List α} {cs:List Value} {p:α} {va vb vc vd ve:Value} (hp:R p [va,vb,vc,vd,ve]) (h:Reps R 5 ps cs):Reps R 5 (p::ps) (va::vb::vc::vd::ve::cs):=Reps.front hp rfl h rfl
end Go.Proofs.YtmhomdohhihlcaaW.PrintWords
namespace Go.Proofs.YtmhomdohhihlcaaW.PrintWords
open Go.RowKit
section
variable {P:Program} {ops:Array Oper} {rest:List Oper} {o:Oper} {a:Act} {Q:Exit→Act→World→Prop} {W:World}
theorem Ke (hw:Region.wanted o (yielded ops a.tmps)=true) (h:wpList P ops Q ({ o with guard:=none }::rest) a W):wpList P ops Q (o::rest) a W:=by
 have h1:Region.wanted { o with guard:=none } (yielded ops a.tmps)=true:=rfl
 unfold wpList at h ⊢
 rw [if_pos h1] at h
 rw [if_pos hw]
 exact h
end
end Go.Proofs.YtmhomdohhihlcaaW.PrintWords
namespace Go.Proofs.YtmhomdohhihlcaaW.PrintWords
open Go.RowKit
namespace Kd
section
variable {α:Type} {d:Kd α} {e base n cap g:Nat} {ok ok' okp:Nat→Prop} {w w1 W:World} {v v1:Value} {xs ys:List α}
theorem qof {rows:List (List Value)} (hR:(raw d.sz).R e w1 base (fun k=>k=W.heap.size) v1 rows) (hg:W.grownBy w1 none) (hat:∃ b,v1.ownBlock=some b∧W.heap.size≤b) (hl:rows.length=xs.length) (hf:∀ (j:Nat) (x:α) (c:List Value),xs[j]? = some x→rows[j]? = some c→FK d W okp x c)
  (hok:∀ k,okp k→ok k) (hfresh:ok W.heap.size):N d e w1 base ok v1 xs:=by
 obtain ⟨b,hb,hle⟩:=hat
 refine ⟨fun k hk=>by rw [hR.1 k hk];exact hfresh,rows,hl,qiI hR,fun j x c hx hc => ?_⟩
 refine qcT (qg9 (qeo (hf j x c hx hc)) (fun k hk hlt=>hg.block k hlt (by simp))) (fun k hk=>⟨hok k hk.1,fun he => ?_⟩)
 rw [hb] at he
 injection he with he
 have:=hk.2
 omega
end
section
variable {P:Program} {ops:Array Oper} {rest:List Oper} {o:Oper} {a:Act} {Q:Exit→Act→World→Prop} {Kc:Act→World→Prop} {α:Type}
theorem N_lit (d:Kd α) {w0 W:World} (base e:Nat) (hgd:o.guard=none) {N':Tmp} (_hd:o.dst=some N') {xs:List α} {inner:List Value} {ok okp:Nat→Prop}
  (hrun:(execOp a.eval o).run P W = .ok (.value (.slice (some ⟨W.heap.size,0,none⟩) xs.length xs.length)) (W.alloc (.cells inner.toArray e)))
  (hrep:Reps (FK d W okp) d.sz xs inner) (hok:∀ k,okp k→ok k) (hfresh:ok W.heap.size) (HB:Below base w0 W) (hbase:base≤W.heap.size) (hm:xs.length≤9223372036854775807)
  (h:∀ v1 w1,N d e w1 base ok v1 xs→Below base w0 w1→W.grownBy w1 none→(∃ b,v1.ownBlock=some b∧W.heap.size≤b)→wpList P ops Q rest (a.put o.dst v1) w1) :
  wpList P ops Q (o::rest) a W:=by
 refine R_lit (raw d.sz) base e hgd _hd (xs:=W9 d.sz xs.length inner) (inner:=inner) (ok:=fun k=>k=W.heap.size) (okp:=fun _=>False) (by rw [JC];exact hrun) (qfl hrep (fun y c hk=>⟨d.K_len (qfO hk),d.K_one (qfO hk)⟩)) (fun _ hk=>hk.elim) rfl HB hbase (by rw [JC];exact hm) ?_
 intro v1 w1 hr hb hg hat
 exact h v1 w1 (qof hr hg hat (JC _ _ _) (fun j y c hy hc=>by rw [WV hc];exact hrep.2 j y hy) hok hfresh) hb hg hat
end
end Kd
end Go.Proofs.YtmhomdohhihlcaaW.PrintWords
namespace Go.Proofs.YtmhomdohhihlcaaW.PrintMore
open Go.RowKit Go.Proofs.YtmhomdohhihlcaaW.PrintWords
namespace Kd
open Go.Proofs.YtmhomdohhihlcaaW.PrintWords.Kd
section
variable {α:Type} {d:Kd α} {e base g N:Nat} {ok:Nat→Prop} {W w1:World} {u v:Value} {xs:List α}
theorem R_old (hu:d.R e W base ok u xs) (hb:Below W.heap.size W w1):d.R e w1 base (fun k=>ok k∧k<W.heap.size) u xs :=
 R_mono (R_below (R_bound hu) hb) (fun _ h=>⟨h.1,h.2.2.1⟩)
theorem R_told (h:d.R e w1 base (fun k=>ok k∧k<N) u xs) (hbase:∀ k,v.ownBlock=some k→N≤k):d.R e w1 base (fun k=>(ok k∧some k≠v.ownBlock)∧k<N) u xs :=
 R_mono h (fun k hk=>⟨⟨hk.1,fun e=>Nat.lt_irrefl _ (Nat.lt_of_lt_of_le hk.2 (hbase k e.symm))⟩,hk.2⟩)
end
end Kd
theorem Yr (k k':IntKind) (x y:Int):Builtin.max2 (.int k x) (.int k' y)=pure (.int k (if x<y then y else x)):=by simp only [Builtin.max2,gt_iff_lt]
theorem Yt (k k':IntKind) (x y:Int):Builtin.min2 (.int k x) (.int k' y)=pure (.int k (if y<x then y else x)):=by simp only [Builtin.min2]
theorem YM (ats:Array TypeId) (ty:TypeId) (a b:Value):Builtin.max_ ats ty #[a,b]=(Builtin.max2 a b >>= fun s=>pure s):=by simp only [Builtin.max_,List.foldlM_cons,List.foldlM_nil]
theorem YN (ats:Array TypeId) (ty:TypeId) (a b:Value):Builtin.min_ ats ty #[a,b]=(Builtin.min2 a b >>= fun s=>pure s):=by simp only [Builtin.min_,List.foldlM_cons,List.foldlM_nil]
theorem Yi (ats:Array TypeId) (ty:TypeId) (a b c:Value):Builtin.max_ ats ty #[a,b,c]=(Builtin.max2 a b >>= fun s=>Builtin.max2 s c >>= fun s=>pure s):=by simp only [Builtin.max_,List.foldlM_cons,List.foldlM_nil]
theorem Yj (ats:Array TypeId) (ty:TypeId) (a b c:Value):Builtin.min_ ats ty #[a,b,c]=(Builtin.min2 a b >>= fun s=>Builtin.min2 s c >>= fun s=>pure s):=by simp only [Builtin.min_,List.foldlM_cons,List.foldlM_nil]
theorem Ys (ats:Array TypeId) (ty:TypeId) (a b c d:Value):Builtin.max_ ats ty #[a,b,c,d]=(Builtin.max2 a b >>= fun s=>Builtin.max2 s c >>= fun s=>Builtin.max2 s d >>= fun s=>pure s):=by simp only [Builtin.max_,List.foldlM_cons,List.foldlM_nil]
theorem Yu (ats:Array TypeId) (ty:TypeId) (a b c d:Value):Builtin.min_ ats ty #[a,b,c,d]=(Builtin.min2 a b >>= fun s=>Builtin.min2 s c >>= fun s=>Builtin.min2 s d >>= fun s=>pure s):=by simp only [Builtin.min_,List.foldlM_cons,List.foldlM_nil]
end Go.Proofs.YtmhomdohhihlcaaW.PrintMore
namespace Go.Proofs.YtmhomdohhihlcaaW.PrintWords
open Go.RowKit
section
variable {P:Program} {ops:Array Oper} {rest:List Oper} {o:Oper} {a:Act} {Q:Exit→Act→World→Prop} {W:World}
theorem Qp {f:FuncId} {aas:Array Operand} {ts:Array TypeId} (_ho:o.op = .call { callee:=.value (.func f),args:=aas,argTypes:=ts }) (h:wpList P ops Q (o::rest) a W):wpList P ops Q (o::rest) a W:=h
theorem qdd {b:Builtin} {xs:Array Operand} {ts:Array TypeId} (_ho:o.op = .call { callee:=.builtin b,args:=xs,argTypes:=ts }) (h:wpList P ops Q (o::rest) a W):wpList P ops Q (o::rest) a W:=h
end
def mn (a b:Int):Int:=if b<a then b else a
def shl (k:IntKind) (x y:Int):Int:=k.wrap (x*2 ^ min y.toNat k.bits)
def shr (k:IntKind) (x y:Int):Int:=x / 2 ^ min y.toNat k.bits
theorem qcP {k:IntKind} {x y j:Int} (h:shl k x y=j) (hy:y≤k.bits):k.wrap (x*2 ^ y.toNat)=j:=by rw [← h];unfold shl;rw [Nat.min_eq_left (by omega)]
theorem qcQ {k:IntKind} {x y j:Int} (h:shr k x y=j) (hy:y≤k.bits):x / 2 ^ y.toNat=j:=by rw [← h];unfold shr;rw [Nat.min_eq_left (by omega)]
theorem qfZ (w:World) (n:Nat):w.drewN n=w.drewN n:=rfl
end Go.Proofs.YtmhomdohhihlcaaW.PrintWords
namespace Go.Proofs.YtmhomdohhihlcaaW.PrintWords
open Go.RowKit
namespace Kd
def V {α:Type} (d:Kd α) (_e:Nat) (W:World) (_base:Nat) (ok:Nat→Prop) (v:Value) (xs:List α):Prop:=∃ A c,v = .slice A xs.length c∧xs.length≤c∧F d W ok A xs.length xs
section
variable {α β:Type} {d:Kd α} {e base base' n m c g N' lo hi:Nat} {ok ok' S:Nat→Prop} {w W w1:World} {A:Option Addr} {ad:Addr} {u v v1:Value} {xs:List α}
theorem qcF (h:V d e W base ok v xs) (hF:∀ A,F d W ok A xs.length xs→F d w1 ok' A xs.length xs):V d e w1 base' ok' v xs:=by
 obtain ⟨A,c,hv,hl,hf⟩:=h
 exact ⟨A,c,hv,hl,hF A hf⟩
theorem V_slice (h:V d e W base ok v xs):∃ A c,v = .slice A xs.length c:=by
 obtain ⟨A,c,hv,_⟩:=h
 exact ⟨A,c,hv⟩
theorem V_at (h:V d e W base ok (.slice A n c) xs):n=xs.length∧n≤c∧F d W ok A xs.length xs:=by
 obtain ⟨A',c',hv,hl,hf⟩:=h
 injection hv with ha hn hc
 subst ha;subst hc
 exact ⟨hn,by rw [hn];exact hl,hf⟩
theorem V_reads' (h:V d e W base ok (.slice A n c) xs):n=xs.length∧n≤c∧d.C W A xs.length xs:=⟨(V_at h).1,(V_at h).2.1,F_now (V_at h).2.2⟩
theorem V_nil (d:Kd α) (e:Nat) (W:World) (base:Nat) (ok:Nat→Prop):V d e W base ok (.slice none 0 0) []:=⟨none,0,rfl,Nat.le_refl _,qpG d W ok⟩
theorem R_V (h:d.R e W base ok v xs):V d e W base' ok v xs:=by
 obtain ⟨A,c,rfl⟩:=R_slice h
 exact ⟨A,c,rfl,(R_reads' h).2.1,R_F h⟩
theorem V_mono (h:V d e W base ok v xs) (hok:∀ k,ok k→ok' k):V d e W base ok' v xs:=qcF h (fun _ hf=>qi9 hf hok)
theorem V_lower (h:V d e W base ok v xs) (_:base'≤base):V d e W base' ok v xs:=h
theorem V_below (h:V d e W base ok v xs) (hb:Below W.heap.size W w1):V d e w1 base ok v xs:=qcF h (fun _ hf=>qaZ hf hb)
theorem V_alloc (h:V d e W base ok v xs) (o:Obj):V d e (W.alloc o) base ok v xs:=qcF h (fun _ hf=>qkL hf o)
theorem V_drew (h:V d e W base ok v xs):V d e W.drew base ok v xs:=qcF h (fun _ hf=>qn7 hf)
theorem V_drewN (h:V d e W base ok v xs) (m:Nat):V d e (W.drewN m) base ok v xs:=qcF h (fun _ hf=>qkM hf m)
theorem V_elder' (h:V d e W base ok v xs) (hbase:∀ k,u.ownBlock=some k→W.heap.size≤k) (hb:Below W.heap.size W w1):V d e w1 base (fun k=>ok k∧some k≠u.ownBlock) v xs:=qcF h (fun _ hf=>qi8 hf hbase hb)
theorem FK_slice_mk {l:List α} (hl:l.length≤c) (hf:F d W ok A l.length l):FK (Kd.slice e d) W ok l [.slice A l.length c]:=fun W' hW=>⟨A,c,rfl,hl,hf W' hW⟩
theorem R_newM {M:Nat→Prop} (h:d.R e w1 W.heap.size ok v xs) (hle:w.heap.size≤W.heap.size) (hM:∀ k,w.heap.size≤k→M k):d.R e w1 W.heap.size (fun k=>M k∧ok k) v xs:=R_mono (R_bound h) (fun k hk=>⟨hM k (Nat.le_trans hle hk.2.1),hk.1⟩)
end
end Kd
end Go.Proofs.YtmhomdohhihlcaaW.PrintWords
namespace Go.Proofs.Ytmhomdohhihlcaa.P
open Go.RowKit Go.Proofs.YtmhomdohhihlcaaW.PrintWords Go.Proofs.YtmhomdohhihlcaaW.PrintLast Go.Proofs.YtmhomdohhihlcaaW.PrintMore
section
attribute [local go_sem] Yr Yt YM YN Yi Yj Ys Yu
def errW:Option Int→Value
 | none => .nilIface
 | some c => .iface 0 (.int .i64 c)
theorem Qs:errW none = .nilIface:=rfl
theorem Qt (c:Int):errW (some c) = .iface 0 (.int .i64 c):=rfl
theorem XU:(Try.prog.info? 3).map (fun i=>(i.zero,i.size,i.bytes))=some (some (.int .i64 0),1,8):=by kernel_rfl
theorem qj6:(Try.prog.info? 25).map (fun i=>(i.zero,i.size,i.bytes))=some (some (.agg #[(.int .i64 0),(.int .i64 0)]),2,16):=by kernel_rfl
structure S25 where
 f0:Int
 f1:Int
def z25:S25:=⟨(0:Int),(0:Int)⟩
def k25:Kd S25:=Kd.iso (Kd.pair (Kd.int .i64) (Kd.int .i64)) (fun x:S25=>(x.f0,x.f1))
theorem qfa {w:World} {x:S25} {cs:List Value} (h:k25.K w x cs):cs=[.int .i64 x.f0,.int .i64 x.f1]:=by
 obtain ⟨_,_,rfl,rfl,rfl⟩:=h
 exact rfl
theorem qiB {w:World} {base:Nat} {ok:Nat→Prop} {x:S25} {cs:List Value} (h:k25.M w base ok x cs):cs=[.int .i64 x.f0,.int .i64 x.f1]:=by
 obtain ⟨_,_,rfl,rfl,rfl⟩:=h
 exact rfl
theorem qoU (w:World) (x:S25)  : k25.K w x [.int .i64 x.f0,.int .i64 x.f1]:=⟨[.int .i64 x.f0],[.int .i64 x.f1],rfl,rfl,rfl⟩
theorem Ol (w:World) (base:Nat) (ok:Nat→Prop) (x:S25)  : k25.M w base ok x [.int .i64 x.f0,.int .i64 x.f1]:=⟨[.int .i64 x.f0],[.int .i64 x.f1],rfl,rfl,rfl⟩
def YI (xs:List S25) (i:Int):S25:=xs.getD i.toNat z25
theorem UG {w:World} {A:Option Addr} {n:Nat} {xs:List S25} (h:Kd.C k25 w A n xs) (i:Int) (h0:0≤i) (h1:i<n):∃ ad ,A=some ad∧w.cell? (ad.add (i.toNat*2))=some (.int .i64 (YI xs i).f0)∧w.cell? ⟨(ad.add (i.toNat*2)).block,(ad.add (i.toNat*2)).off+1,none⟩=some (.int .i64 (YI xs i).f1):=by
 obtain ⟨ad,c,e,_,hK,hc0⟩:=Kd.C_get h z25 i h0 h1
 have hc:∀ j u,c[j]? = some u→w.cell? (ad.add (i.toNat*2+j))=some u:=hc0
 obtain rfl:=qfa hK
 exact ⟨ad,e,hc 0 _ rfl,by rw [← Ko _ _ 1 (by omega)];exact hc 1 _ rfl⟩
structure S68 where
 f0:Int
 f1:S25
def z68:S68:=⟨(0:Int),z25⟩
def k68:Kd S68:=Kd.iso (Kd.pair (Kd.int .i64) k25) (fun x:S68=>(x.f0,x.f1))
theorem qj8 {w:World} {x:S68} {cs:List Value} (h:k68.K w x cs):cs=[.int .i64 x.f0,.int .i64 x.f1.f0,.int .i64 x.f1.f1]:=by
 obtain ⟨_,_,rfl,rfl,s1⟩:=h
 obtain rfl:=qfa s1
 exact rfl
theorem qdG (w:World) (base:Nat) (ok:Nat→Prop) (x:S68)  : k68.M w base ok x [.int .i64 x.f0,.int .i64 x.f1.f0,.int .i64 x.f1.f1]:=⟨[.int .i64 x.f0],[.int .i64 x.f1.f0,.int .i64 x.f1.f1],rfl,rfl,(Ol w base ok x.f1 )⟩
def Ye (xs:List S68) (i:Int):S68:=xs.getD i.toNat z68
theorem qc8 {w:World} {A:Option Addr} {n:Nat} {xs:List S68} (h:Kd.C k68 w A n xs) (i:Int) (h0:0≤i) (h1:i<n):∃ ad ,A=some ad∧w.cell? (ad.add (i.toNat*3))=some (.int .i64 (Ye xs i).f0)∧w.cell? ⟨(ad.add (i.toNat*3)).block,(ad.add (i.toNat*3)).off+1,none⟩=some (.int .i64 (Ye xs i).f1.f0)∧w.cell? ⟨(ad.add (i.toNat*3)).block,(ad.add (i.toNat*3)).off+2,none⟩=some (.int .i64 (Ye xs i).f1.f1):=by
 obtain ⟨ad,c,e,_,hK,hc0⟩:=Kd.C_get h z68 i h0 h1
 have hc:∀ j u,c[j]? = some u→w.cell? (ad.add (i.toNat*3+j))=some u:=hc0
 obtain rfl:=qj8 hK
 exact ⟨ad,e,hc 0 _ rfl,by rw [← Ko _ _ 1 (by omega)];exact hc 1 _ rfl,by rw [← Ko _ _ 2 (by omega)];exact hc 2 _ rfl⟩
def Jp (xs:List (List S25)) (i:Int):(List S25):=xs.getD i.toNat ([]:List S25)
theorem qjt {w:World} {A:Option Addr} {n:Nat} {xs:List (List S25)} (h:Kd.C (Kd.slice 25 k25) w A n xs) (i:Int) (h0:0≤i) (h1:i<n):∃ ad A0 c0,A=some ad∧w.cell? (ad.add i.toNat)=some (.slice A0 (Jp xs i).length c0)∧(Jp xs i).length≤c0∧k25.C w A0 (Jp xs i).length (Jp xs i):=by
 obtain ⟨ad,c,e,_,hK,hc0⟩:=Kd.C_get h ([]:List S25) i h0 h1
 have hc:∀ j u,c[j]? = some u→w.cell? (ad.add (i.toNat*1+j))=some u:=hc0
 obtain ⟨A0,c0,rfl,l0,g0⟩:=hK
 exact ⟨ad,A0,c0,e,by have hq:=hc 0 _ rfl;rwa [Nat.mul_one,Nat.add_zero] at hq,l0,g0⟩
def Y5 (xs:List (List Int)) (i:Int):(List Int):=xs.getD i.toNat ([]:List Int)
theorem qcI {w:World} {A:Option Addr} {n:Nat} {xs:List (List Int)} (h:Kd.C (Kd.slice 3 (Kd.int .i64)) w A n xs) (i:Int) (h0:0≤i) (h1:i<n):∃ ad A0 c0,A=some ad∧w.cell? (ad.add i.toNat)=some (.slice A0 (Y5 xs i).length c0)∧(Y5 xs i).length≤c0∧(Kd.int .i64).C w A0 (Y5 xs i).length (Y5 xs i):=by
 obtain ⟨ad,c,e,_,hK,hc0⟩:=Kd.C_get h ([]:List Int) i h0 h1
 have hc:∀ j u,c[j]? = some u→w.cell? (ad.add (i.toNat*1+j))=some u:=hc0
 obtain ⟨A0,c0,rfl,l0,g0⟩:=hK
 exact ⟨ad,A0,c0,e,by have hq:=hc 0 _ rfl;rwa [Nat.mul_one,Nat.add_zero] at hq,l0,g0⟩
structure S39 where
 f0:(List Int)
 f1:(List Int)
 f2:(List Int)
 f3:Int
 f4:Int
def z39:S39:=⟨([]:List Int),([]:List Int),([]:List Int),(0:Int),(0:Int)⟩
def k39:Kd S39:=Kd.iso (Kd.pair (Kd.slice 3 (Kd.int .i64)) (Kd.pair (Kd.slice 3 (Kd.int .i64)) (Kd.pair (Kd.slice 3 (Kd.int .i64)) (Kd.pair (Kd.int .i64) (Kd.int .i64))))) (fun x:S39=>(x.f0,x.f1,x.f2,x.f3,x.f4))
theorem qj7 {w:World} {x:S39} {cs:List Value} (h:k39.K w x cs):∃ A0 c0 A1 c1 A2 c2,cs=[.slice A0 x.f0.length c0,.slice A1 x.f1.length c1,.slice A2 x.f2.length c2,.int .i64 x.f3,.int .i64 x.f4]∧x.f0.length≤c0∧(Kd.int .i64).C w A0 x.f0.length x.f0∧x.f1.length≤c1∧(Kd.int .i64).C w A1 x.f1.length x.f1∧x.f2.length≤c2∧(Kd.int .i64).C w A2 x.f2.length x.f2:=by
 obtain ⟨_,_,rfl,⟨A0,c0,rfl,l0,g0⟩,⟨_,_,rfl,⟨A1,c1,rfl,l1,g1⟩,⟨_,_,rfl,⟨A2,c2,rfl,l2,g2⟩,⟨_,_,rfl,rfl,rfl⟩⟩⟩⟩:=h
 exact ⟨A0,c0,A1,c1,A2,c2,rfl,l0,g0,l1,g1,l2,g2⟩
theorem qoV (w:World) (x:S39) {A0:Option Addr} {c0:Nat} (l0:x.f0.length≤c0) (g0:(Kd.int .i64).C w A0 x.f0.length x.f0) {A1:Option Addr} {c1:Nat} (l1:x.f1.length≤c1) (g1:(Kd.int .i64).C w A1 x.f1.length x.f1) {A2:Option Addr} {c2:Nat} (l2:x.f2.length≤c2) (g2:(Kd.int .i64).C w A2 x.f2.length x.f2):k39.K w x [.slice A0 x.f0.length c0,.slice A1 x.f1.length c1,.slice A2 x.f2.length c2,.int .i64 x.f3,.int .i64 x.f4]:=⟨[.slice A0 x.f0.length c0],[.slice A1 x.f1.length c1,.slice A2 x.f2.length c2,.int .i64 x.f3,.int .i64 x.f4],rfl,⟨A0,c0,rfl,l0,g0⟩,⟨[.slice A1 x.f1.length c1],[.slice A2 x.f2.length c2,.int .i64 x.f3,.int .i64 x.f4],rfl,⟨A1,c1,rfl,l1,g1⟩,⟨[.slice A2 x.f2.length c2],[.int .i64 x.f3,.int .i64 x.f4],rfl,⟨A2,c2,rfl,l2,g2⟩,⟨[.int .i64 x.f3],[.int .i64 x.f4],rfl,rfl,rfl⟩⟩⟩⟩
theorem qhU (W:World) (ok:Nat→Prop) (x:S39) {A0:Option Addr} {c0:Nat} (l0:x.f0.length≤c0) (g0:Kd.F (Kd.int .i64) W ok A0 x.f0.length x.f0) {A1:Option Addr} {c1:Nat} (l1:x.f1.length≤c1) (g1:Kd.F (Kd.int .i64) W ok A1 x.f1.length x.f1) {A2:Option Addr} {c2:Nat} (l2:x.f2.length≤c2) (g2:Kd.F (Kd.int .i64) W ok A2 x.f2.length x.f2):Kd.FK k39 W ok x [.slice A0 x.f0.length c0,.slice A1 x.f1.length c1,.slice A2 x.f2.length c2,.int .i64 x.f3,.int .i64 x.f4]:=fun W2 hW=>qoV W2 x l0 (g0 W2 hW) l1 (g1 W2 hW) l2 (g2 W2 hW)
def Qc (xs:List S39) (i:Int):S39:=xs.getD i.toNat z39
theorem qfS {w:World} {A:Option Addr} {n:Nat} {xs:List S39} (h:Kd.C k39 w A n xs) (i:Int) (h0:0≤i) (h1:i<n):∃ ad A0 c0 A1 c1 A2 c2,A=some ad∧w.cell? (ad.add (i.toNat*5))=some (.slice A0 (Qc xs i).f0.length c0)∧w.cell? ⟨(ad.add (i.toNat*5)).block,(ad.add (i.toNat*5)).off+1,none⟩=some (.slice A1 (Qc xs i).f1.length c1)∧w.cell? ⟨(ad.add (i.toNat*5)).block,(ad.add (i.toNat*5)).off+2,none⟩=some (.slice A2 (Qc xs i).f2.length c2)∧w.cell? ⟨(ad.add (i.toNat*5)).block,(ad.add (i.toNat*5)).off+3,none⟩=some (.int .i64 (Qc xs i).f3)∧w.cell? ⟨(ad.add (i.toNat*5)).block,(ad.add (i.toNat*5)).off+4,none⟩=some (.int .i64 (Qc xs i).f4)∧(Qc xs i).f0.length≤c0∧(Kd.int .i64).C w A0 (Qc xs i).f0.length (Qc xs i).f0∧(Qc xs i).f1.length≤c1∧(Kd.int .i64).C w A1 (Qc xs i).f1.length (Qc xs i).f1∧(Qc xs i).f2.length≤c2∧(Kd.int .i64).C w A2 (Qc xs i).f2.length (Qc xs i).f2:=by
 obtain ⟨ad,c,e,_,hK,hc0⟩:=Kd.C_get h z39 i h0 h1
 have hc:∀ j u,c[j]? = some u→w.cell? (ad.add (i.toNat*5+j))=some u:=hc0
 obtain ⟨A0,c0,A1,c1,A2,c2,rfl,l0,g0,l1,g1,l2,g2⟩:=qj7 hK
 exact ⟨ad,A0,c0,A1,c1,A2,c2,e,hc 0 _ rfl,by rw [← Ko _ _ 1 (by omega)];exact hc 1 _ rfl,by rw [← Ko _ _ 2 (by omega)];exact hc 2 _ rfl,by rw [← Ko _ _ 3 (by omega)];exact hc 3 _ rfl,by rw [← Ko _ _ 4 (by omega)];exact hc 4 _ rfl,l0,g0,l1,g1,l2,g2⟩
def QE (xs:List (List (List Int))) (i:Int):(List (List Int)):=xs.getD i.toNat ([]:List (List Int))
theorem qju {w:World} {A:Option Addr} {n:Nat} {xs:List (List (List Int))} (h:Kd.C (Kd.slice 37 (Kd.slice 3 (Kd.int .i64))) w A n xs) (i:Int) (h0:0≤i) (h1:i<n):∃ ad A0 c0,A=some ad∧w.cell? (ad.add i.toNat)=some (.slice A0 (QE xs i).length c0)∧(QE xs i).length≤c0∧(Kd.slice 3 (Kd.int .i64)).C w A0 (QE xs i).length (QE xs i):=by
 obtain ⟨ad,c,e,_,hK,hc0⟩:=Kd.C_get h ([]:List (List Int)) i h0 h1
 have hc:∀ j u,c[j]? = some u→w.cell? (ad.add (i.toNat*1+j))=some u:=hc0
 obtain ⟨A0,c0,rfl,l0,g0⟩:=hK
 exact ⟨ad,A0,c0,e,by have hq:=hc 0 _ rfl;rwa [Nat.mul_one,Nat.add_zero] at hq,l0,g0⟩
structure Z7 where
 f0:Int
 f1:Int
def qsl:Z7:=⟨(0:Int),(0:Int)⟩
def UA:Kd Z7:=Kd.iso (Kd.pair (Kd.int .i64) (Kd.int .i64)) (fun x:Z7=>(x.f0,x.f1))
theorem qiA {w:World} {x:Z7} {cs:List Value} (h:UA.K w x cs):cs=[.int .i64 x.f0,.int .i64 x.f1]:=by
 obtain ⟨_,_,rfl,rfl,rfl⟩:=h
 exact rfl
theorem qmx (w:World) (x:Z7)  : UA.K w x [.int .i64 x.f0,.int .i64 x.f1]:=⟨[.int .i64 x.f0],[.int .i64 x.f1],rfl,rfl,rfl⟩
theorem XW (w:World) (base:Nat) (ok:Nat→Prop) (x:Z7)  : UA.M w base ok x [.int .i64 x.f0,.int .i64 x.f1]:=⟨[.int .i64 x.f0],[.int .i64 x.f1],rfl,rfl,rfl⟩
def Zh (xs:List Z7) (i:Int):Z7:=xs.getD i.toNat qsl
theorem UF {w:World} {A:Option Addr} {n:Nat} {xs:List Z7} (h:Kd.C UA w A n xs) (i:Int) (h0:0≤i) (h1:i<n):∃ ad ,A=some ad∧w.cell? (ad.add (i.toNat*2))=some (.int .i64 (Zh xs i).f0)∧w.cell? ⟨(ad.add (i.toNat*2)).block,(ad.add (i.toNat*2)).off+1,none⟩=some (.int .i64 (Zh xs i).f1):=by
 obtain ⟨ad,c,e,_,hK,hc0⟩:=Kd.C_get h qsl i h0 h1
 have hc:∀ j u,c[j]? = some u→w.cell? (ad.add (i.toNat*2+j))=some u:=hc0
 obtain rfl:=qiA hK
 exact ⟨ad,e,hc 0 _ rfl,by rw [← Ko _ _ 1 (by omega)];exact hc 1 _ rfl⟩
end
section
attribute [local go_sem] Yr Yt YM YN Yi Yj Ys Yu
def QT.l0:Nat→List Int→List Int→Int→Option (Bool)
 | 0,_,_,_=>none
 | k+1,x0,x1,x5=>if x5<(x0.length:Int) then (if 0≤x5 then (if x5<(x1.length:Int) then (if (rd x0 x5)=(rd x1 x5) then (QT.l0 k x0 x1 (wrap64 (x5+1))) else (some false)) else (none)) else (none)) else (some true)
def QT.f (k:Nat) (l0:List Int) (l1:List Int):Option (Bool):=if (l0.length:Int)=(l1.length:Int) then (QT.l0 k l0 l1 0) else (some false)
set_option maxHeartbeats 8000000 in
set_option maxRecDepth 100000 in
theorem QT.calls (k:Nat) (A0:Option Addr) (c0:Nat) (l0:List Int) (A1:Option Addr) (c1:Nat) (l1:List Int) (r:Bool) (w:World) (hr0:Kd.C (Kd.int .i64) w A0 l0.length l0) (hc0:l0.length≤c0) (hr1:Kd.C (Kd.int .i64) w A1 l1.length l1) (hc1:l1.length≤c1) (h:QT.f k l0 l1=some r) :
  Calls Try.prog 27 #[.slice A0 l0.length c0,.slice A1 l1.length c1] w fun e w'=>e = .returned (.bool r)∧QS w w':=by
 have HR0:=Q1.mk hr0
 have HC0:=Q1.mk hc0
 clear hr0 hc0
 have HR1:=Q1.mk hr1
 have HC1:=Q1.mk hc1
 clear hr1 hc1
 have H:(if (l0.length:Int)=(l1.length:Int) then (QT.l0 k l0 l1 0) else (some false))=some r:=h
 clear h
 by_cases c3:(l0.length:Int)=(l1.length:Int)
 ·
  rw [if_pos c3] at H
  have c3b0:((l0.length:Int)==(l1.length:Int))=true:=beq_iff_eq.mpr c3
  have c3b1:((l0.length:Int) != (l1.length:Int))=false:=bne_eq_false_iff_eq.mpr c3
  have c3b2:(l0.length==l1.length)=true:=by first|simpa using c3|(simp at c3 ⊢;omega)
  clear c3
  have H':=Q1.mk H
  clear H
  go_enter Try.func27,Try.ntmps27
  go_wp2
  repeat (go_quiet (fail);try go_wp2)
  go_loopg [5] k (fun kq v5 w' => ∃ (QV:Int),v5 = .int .i64 QV∧Q1 (QT.l0 kq l0 l1 QV=some r)∧Q1 (kq≤k)∧QS w w')
  case atStart=>exact ⟨(0),(by first|rfl|(simp;done)|(simp [*];done)),H',⟨Nat.le_refl _⟩,by repeat (first|exact QS.refl _|apply QS.step)⟩
  case round =>
   clear H'
   try clear c1
   try clear c2
   try clear p2
   try clear c3
   try clear c3b0
   try clear c3b1
   try clear c3b2
   obtain ⟨QV,rfl,HA,HK1,⟨m1,rfl⟩⟩:=hrel
   cases gk with
   | zero=>exact absurd HA.out (by simp [QT.l0])
   | succ k1 =>
    have H:=HA.out;clear HA;simp only [QT.l0] at H
    by_cases c4:QV<(l0.length:Int)
    ·
     rw [if_pos c4] at H;have c4b0:decide (QV<(l0.length:Int))=true:=decide_eq_true c4;clear c4
     by_cases c5:0≤QV
     ·
      rw [if_pos c5] at H;have c5b0:decide (0≤QV)=true:=decide_eq_true c5;clear c5
      by_cases c6:QV<(l1.length:Int)
      ·
       rw [if_pos c6] at H;have c6b0:decide (QV<(l1.length:Int))=true:=decide_eq_true c6;clear c6
       by_cases c7:(rd l0 QV)=(rd l1 QV)
       ·
        rw [if_pos c7] at H;have c7b0:((rd l0 QV)==(rd l1 QV))=true:=beq_iff_eq.mpr c7;have c7b1:((rd l0 QV) != (rd l1 QV))=false:=bne_eq_false_iff_eq.mpr c7;clear c7;have H':=Q1.mk H;clear H;have qgt:0≤(QV:Int):=of_decide_eq_true (by first|(with_reducible assumption)|assumption);have qgH:QV<(l0.length:Int):=of_decide_eq_true (by first|(with_reducible assumption)|assumption);obtain ⟨qp6,e185,qmo⟩:=Kd.at_int HR0.out QV qgt qgH;cases e185;replace qgt:=eq_true qgt;replace qgH:=eq_true qgH;have qgu:0≤(QV:Int):=of_decide_eq_true (by first|(with_reducible assumption)|assumption);have qgI:QV<(l1.length:Int):=of_decide_eq_true (by first|(with_reducible assumption)|assumption);obtain ⟨qp7,qot,qmp⟩:=Kd.at_int HR1.out QV qgu qgI;cases qot;replace qgu:=eq_true qgu;replace qgI:=eq_true qgI
        go_wp2
        repeat (go_quiet (fail);try go_wp2)
        go_roundg k1
        case measure=>have:=HK1.out;omega
        case rel=>exact ⟨(wrap64 (QV+1)),(by first|rfl|(simp;done)|(simp [*];done)),H',⟨by have:=HK1.out;omega⟩,by repeat (first|exact QS.refl _|apply QS.step)⟩
       rw [if_neg c7] at H;have c7b0:((rd l0 QV)==(rd l1 QV))=false:=beq_eq_false_iff_ne.mpr c7;have c7b1:((rd l0 QV) != (rd l1 QV))=true:=bne_iff_ne.mpr c7;obtain rfl:=Option.some.inj H;have qgt:0≤(QV:Int):=of_decide_eq_true (by first|(with_reducible assumption)|assumption);have qgH:QV<(l0.length:Int):=of_decide_eq_true (by first|(with_reducible assumption)|assumption);obtain ⟨qp6,e185,qmo⟩:=Kd.at_int HR0.out QV qgt qgH;cases e185;replace qgt:=eq_true qgt;replace qgH:=eq_true qgH;have qgu:0≤(QV:Int):=of_decide_eq_true (by first|(with_reducible assumption)|assumption);have qgI:QV<(l1.length:Int):=of_decide_eq_true (by first|(with_reducible assumption)|assumption);obtain ⟨qp7,qot,qmp⟩:=Kd.at_int HR1.out QV qgu qgI;cases qot;replace qgu:=eq_true qgu;replace qgI:=eq_true qgI
       go_wp2
       repeat (go_quiet (fail);try go_wp2)
       go_ret
       exact ⟨by first|rfl|(simp;done)|(simp [*];done),by repeat (first|exact QS.refl _|apply QS.step)⟩
      rw [if_neg c6] at H
      exact absurd H (by simp)
     rw [if_neg c5] at H
     exact absurd H (by simp)
    rw [if_neg c4] at H;have c4b0:decide (QV<(l0.length:Int))=false:=decide_eq_false c4;clear c4;obtain rfl:=Option.some.inj H
    go_wp2
    repeat (go_quiet (fail);try go_wp2)
    go_ret
    exact ⟨by first|rfl|(simp;done)|(simp [*];done),by repeat (first|exact QS.refl _|apply QS.step)⟩
 rw [if_neg c3] at H
 have c3b0:((l0.length:Int)==(l1.length:Int))=false:=beq_eq_false_iff_ne.mpr c3
 have c3b1:((l0.length:Int) != (l1.length:Int))=true:=bne_iff_ne.mpr c3
 have c3b2:(l0.length==l1.length)=false:=by first|simpa using c3|(simp at c3 ⊢;omega)
 obtain rfl:=Option.some.inj H
 go_enter Try.func27,Try.ntmps27
 go_wp2
 repeat (go_quiet (fail);try go_wp2)
 go_ret
 exact ⟨by first|rfl|(simp;done)|(simp [*];done),by repeat (first|exact QS.refl _|apply QS.step)⟩
end
section
attribute [local go_sem] Yr Yt YM YN Yi Yj Ys Yu
def Ya.f (a0:Int) (a1:Int) (a2:Int):Option (Bool):=if a1≤a0 then (some (decide (a0≤a2))) else (some false)
set_option maxHeartbeats 8000000 in
set_option maxRecDepth 100000 in
theorem Ya.calls (a0:Int) (a1:Int) (a2:Int) (r:Bool) (w:World) (h:Ya.f a0 a1 a2=some r) :
  Calls Try.prog 34 #[.int .i64 a0,.int .i64 a1,.int .i64 a2] w fun e w'=>e = .returned (.bool r)∧QS w w':=by
 have H:(if a1≤a0 then (some (decide (a0≤a2))) else (some false))=some r:=h
 clear h
 by_cases c4:a1≤a0
 ·
  rw [if_pos c4] at H
  have c4b0:decide (a1≤a0)=true:=decide_eq_true c4
  clear c4
  obtain rfl:=Option.some.inj H
  go_enter Try.func34,Try.ntmps34
  go_wp2
  go_ret
  exact ⟨by first|rfl|(simp;done)|(simp [*];done),by repeat (first|exact QS.refl _|apply QS.step)⟩
 rw [if_neg c4] at H
 have c4b0:decide (a1≤a0)=false:=decide_eq_false c4
 clear c4
 obtain rfl:=Option.some.inj H
 go_enter Try.func34,Try.ntmps34
 go_wp2
 go_ret
 exact ⟨by first|rfl|(simp;done)|(simp [*];done),by repeat (first|exact QS.refl _|apply QS.step)⟩
end
section
def ar6 (n:List Int):List Value:=[.int .i64 (rd n 0),.int .i64 (rd n 1),.int .i64 (rd n 2),.int .i64 (rd n 3),.int .i64 (rd n 4),.int .i64 (rd n 5)]
def Is6 (W:World) (g:Nat) (n:List Int):Prop:=W.heap[g]? = some (.cells (ar6 n).toArray 115 (0,0))
namespace Is6
variable {W:World} {g:Nat} {n:List Int}
theorem lt (h:Is6 W g n):g<W.heap.size:=QL h
theorem cells (h:Is6 W g n):W.cell? ⟨g,0,none⟩=some (.int .i64 (rd n 0))∧W.cell? ⟨g,1,none⟩=some (.int .i64 (rd n 1))∧W.cell? ⟨g,2,none⟩=some (.int .i64 (rd n 2))∧W.cell? ⟨g,3,none⟩=some (.int .i64 (rd n 3))∧W.cell? ⟨g,4,none⟩=some (.int .i64 (rd n 4))∧W.cell? ⟨g,5,none⟩=some (.int .i64 (rd n 5)) :=
 ⟨(Q8 h 0).trans rfl,(Q8 h 1).trans rfl,(Q8 h 2).trans rfl,(Q8 h 3).trans rfl,(Q8 h 4).trans rfl,(Q8 h 5).trans rfl⟩
theorem frozen (h:Is6 W g n):W.frozen? ⟨g,0,none⟩=false∧W.frozen? ⟨g,1,none⟩=false∧W.frozen? ⟨g,2,none⟩=false∧W.frozen? ⟨g,3,none⟩=false∧W.frozen? ⟨g,4,none⟩=false∧W.frozen? ⟨g,5,none⟩=false :=
 ⟨Q9 h 0,Q9 h 1,Q9 h 2,Q9 h 3,Q9 h 4,Q9 h 5⟩
theorem cell (h:Is6 W g n) (i:Nat) (hi:i<6):W.cell? ⟨g,i,none⟩=some (.int .i64 (rd n i)):=by
 rw [Q8 h i]
 match i,hi with
 | 0,_=>rfl
 | 1,_=>rfl
 | 2,_=>rfl
 | 3,_=>rfl
 | 4,_=>rfl
 | 5,_=>rfl
 | i+6,hi=>omega
theorem celli (h:Is6 W g n) (i:Int) (h0:0≤i) (h6:i<6):W.cell? ⟨g,i.toNat,none⟩=some (.int .i64 (rd n i)):=by
 have e:=h.cell i.toNat (by omega)
 rwa [show ((i.toNat:Nat):Int)=i by omega] at e
theorem frz (h:Is6 W g n) (i:Nat):W.frozen? ⟨g,i,none⟩=false:=Q9 h i
theorem qmU (n:List Int) (hn:n.length=6) (i:Nat) (hi:i<6) (x:Int):(ar6 n).toArray.setIfInBounds i (.int .i64 x)=(ar6 (n.set i x)).toArray:=by
 match n,hn with
 | [a,b,c,d,e,f],_ =>
  match i,hi with
  | 0,_=>rfl
  | 1,_=>rfl
  | 2,_=>rfl
  | 3,_=>rfl
  | 4,_=>rfl
  | 5,_=>rfl
  | i+6,hi=>omega
theorem set (h:Is6 W g n) (hn:n.length=6) (i:Nat) (hi:i<6) (x:Int):Is6 (W.setCell ⟨g,i,none⟩ (.int .i64 x)) g (n.set i x) :=
 Qv h i _ (qmU n hn i hi x)
theorem seti (h:Is6 W g n) (hn:n.length=6) (i:Int) (h0:0≤i) (h6:i<6) (x:Int):Is6 (W.setCell ⟨g,i.toNat,none⟩ (.int .i64 x)) g (n.set i.toNat x):=h.set hn i.toNat (by omega) x
theorem far (h:Is6 W g n) {p:Addr} (hp:g≠p.block) (u:Value):Is6 (W.setCell p u) g n:=Qm h hp u
theorem alloc (h:Is6 W g n) (o:Obj):Is6 (W.alloc o) g n:=Q3 h o
theorem drew (h:Is6 W g n):Is6 W.drew g n:=h
theorem drewN (h:Is6 W g n) (m:Nat):Is6 (W.drewN m) g n:=h
theorem below {W1:World} (h:Is6 W g n) (hb:Below W.heap.size W W1):Is6 W1 g n:=Qf h hb
theorem put6 (h:Is6 W g n) (m:List Int):Is6 ((((((W.setCell ⟨g,0,none⟩ (.int .i64 (rd m 0))).setCell ⟨g,1,none⟩ (.int .i64 (rd m 1))).setCell ⟨g,2,none⟩ (.int .i64 (rd m 2))).setCell ⟨g,3,none⟩ (.int .i64 (rd m 3))).setCell ⟨g,4,none⟩ (.int .i64 (rd m 4))).setCell ⟨g,5,none⟩ (.int .i64 (rd m 5))) g m:=by
 refine Qv (Qv (Qv (Qv (Qv (Qv h 0 _ rfl) 1 _ rfl) 2 _ rfl) 3 _ rfl) 4 _ rfl) 5 _ ?_
 rfl
end Is6
theorem qgf:∀ q,q∈3::(Kd.int .i64).E→q≠115:=by
 intro q hq
 have hq3:q=3:=by simpa [Kd.int,Kd.scalar] using hq
 omega
theorem qjl {W:World} {g b:Nat} {n xs:List Int} {v:Value} (h:Kd.R (Kd.int .i64) 3 W b (fun _=>True) v xs) (h6:Is6 W g n) (j:Nat) (u:Value):Kd.R (Kd.int .i64) 3 (W.setCell ⟨g,j,none⟩ u) b (fun _=>True) v xs :=
 Kd.R_mono (Kd.R_far (p:=⟨g,j,none⟩) (Kd.R_types h h6 qgf) (fun _ h=>h.2) u) (fun _ _=>trivial)
theorem qgS (l:List Int) (h:l.length≤6):splice (ar6 []) 0 (l.map (Value.int .i64))=ar6 l:=by
 match l,h with
 | [],_=>rfl
 | [_],_=>rfl
 | [_,_],_=>rfl
 | [_,_,_],_=>rfl
 | [_,_,_,_],_=>rfl
 | [_,_,_,_,_],_=>rfl
 | [_,_,_,_,_,_],_=>rfl
 | _::_::_::_::_::_::_::_,h=>simp at h
theorem Xc {w W:World} {A:Option Addr} {l:List Int} (h:Kd.C (Kd.int .i64) w A l.length l) (hb:Below w.heap.size w W) (h0:0<(l.map (Value.int .i64)).length):∃ ad,A=some ad ∧ ∀ j v,(l.map (Value.int .i64))[j]? = some v→W.cell? (ad.add j)=some v:=by
 have h:=Kd.C_below h hb
 rw [List.length_map] at h0
 obtain ⟨ad,e,hc⟩:=Kd.at_int h 0 (by omega) (by omega)
 refine ⟨ad,e,fun j v hv => ?_⟩
 have hj:j<l.length:=by simpa using (List.getElem?_eq_some_iff.1 hv).1
 obtain ⟨ad',e',hc'⟩:=Kd.at_int h j (by omega) (by omega)
 rw [e] at e'
 cases e'
 rw [List.getElem?_map,List.getElem?_eq_getElem hj] at hv
 simp only [Option.map_some,Option.some.injEq] at hv
 rw [← hv]
 rw [show ((j:Int).toNat)=j by simp] at hc'
 rw [hc']
 simp [rd,List.getD_eq_getElem?_getD,List.getElem?_eq_getElem hj]
theorem qmB {l:List Int} (hl:l.length≤6):(l.map (Value.int .i64)).length=Nat.min l.length 6:=by rw [List.length_map];exact (Nat.min_eq_left hl).symm
theorem qmC (l:List Int):∀ v∈l.map (Value.int .i64),v.oneCell'=true:=by intro v hv;obtain ⟨x,_,rfl⟩:=List.mem_map.1 hv;rfl
theorem Ux {P:Program} (t e:TypeId) {i:TypeInfo} (ht:P.underlying t=some (.slice e)) (hi:P.info? e=some i) (A:Option Addr) (n c:Nat) (hc:n≤c) :
  ∀ W:World,(Instr.slice t (.slice A n c) none (some (.int .i64 n)) (some (.int .i64 n))).run P W = .ok (.slice A n n) W:=by
 intro W
 have hel:P.elem t=e:=by simp [Program.elem,ht]
 have hu:P.underlying t=some (.slice (P.elem t)):=by rw [hel];exact ht
 have ha:(A.map fun x=>x.add 0)=A:=by cases A<;>simp [Addr.add]
 rw [run_slice_hm W t A n c hu .i64 .i64 n n (by omega) (by omega) (by omega),hel]
 simp [sizeOf,typeInfo,hi,sliced,Result.andThen,ha]
theorem qjk {α:Type} {d:Kd α} {e base base' n c:Nat} {ok:Nat→Prop} {W:World} {A:Option Addr} {xs:List α} (h:d.R e W base ok (.slice A n c) xs) (m:Nat) (hm:m=xs.length):Kd.V d e W base' ok (.slice A m m) xs:=by
 subst hm
 have h2:=Kd.R_reads' h
 have hf:=Kd.R_F h
 rw [h2.1] at hf
 exact ⟨A,xs.length,rfl,Nat.le_refl _,hf⟩
theorem qde {P : Program} {ops : Array Oper} {Q : Exit → Act → World → Prop} {oi : Oper} {N : Option Tmp} {a : Act} {w : World} {K : Act → World → Prop} {f : FuncId} {fn : Func} {ao : Array Operand} {ts : Array TypeId} (hf : P.funcs[f]? = some fn) (hname : (fn.name == "runtime.NumGoroutine") = false) (hb : fn.body.isSome = true) (args : Array Value) (t : Tmp)
  (hw:Region.wanted oi (yielded ops a.tmps)=true) (hN:oi.dst=N) (hop:oi.op = .call { callee:=.value (.tmp t),args:=ao,argTypes:=ts }) (hev:a.eval (.tmp t) = .func (.func f) #[] #[]) (hargs:ao.map a.eval=args)
  (h:Calls P f args w fun e w' => ∃ v,e = .returned v∧K (a.put N v) w'):if Region.wanted oi (yielded ops a.tmps)=true then Oper.wp P oi a w K Q else K (a.put N undef) w:=by
 refine qjx f args hw hN ?_ h
 have he:=Xk hf hname hb args w
 unfold execOp
 simp [hop,resolve,Deferred.ofValue,invoke,hev,hargs,he]
theorem Xl {P : Program} {ops : Array Oper} {Q : Exit → Act → World → Prop} {rest : List Oper} {oi : Oper} {a : Act} {w : World} (N : Option Tmp) (hd : oi.dst = N) (hg : oi.guard = none) {f : FuncId} {fn : Func} {ao : Array Operand} {ts : Array TypeId} (hf : P.funcs[f]? = some fn) (hname : (fn.name == "runtime.NumGoroutine") = false) (hb : fn.body.isSome = true) (args : Array Value) (t : Tmp) (bound caps : Array Value)
  (hop:oi.op = .call { callee:=.value (.tmp t),args:=ao,argTypes:=ts }) (hev:a.eval (.tmp t) = .func (.func f) bound caps) (hargs:bound++ao.map a.eval++caps=args)
  (h:Calls P f args w fun e w' => ∃ v,e = .returned v∧wpList P ops Q rest (a.put N v) w'):wpList P ops Q (oi::rest) a w:=by
 refine wpList_plain hg fun K hK => ?_
 have he:=Xk hf hname hb args w
 have hrun:(execOp a.eval oi).run P w = .ok (.enter f args) w:=by
  unfold execOp
  simp [hop,resolve,Deferred.ofValue,invoke,hev,hargs,he]
 unfold Oper.wp
 rw [hrun,Oper.upon_enter]
 refine h.mono fun e w'' hh => ?_
 obtain ⟨v,rfl,hk⟩:=hh
 subst hd
 exact hK _ _ hk
theorem qoF (d:Nat) (w:World) (x0 x1 x2 x3 x4 x5 y0 y1 y2 y3 y4 y5:Int) :
  (Op.equalIn (d+2) 115 (.agg #[.int .i64 x0,.int .i64 x1,.int .i64 x2,.int .i64 x3,.int .i64 x4,.int .i64 x5]) (.agg #[.int .i64 y0,.int .i64 y1,.int .i64 y2,.int .i64 y3,.int .i64 y4,.int .i64 y5])).run Try.prog w = .ok (x0==y0&&(x1==y1&&(x2==y2&&(x3==y3&&(x4==y4&&(x5==y5)))))) w:=by
 obtain ⟨i0,hi,hz0,hz1,hz2⟩:=info_parts XU
 have hu:=Try.underlying3
 rw [Op.equalIn]
 simp only [Sem.run_bind,run_underlying Try.underlying115,Result.andThen_ok,sizeOf,typeInfo]
 simp only [Std.Legacy.Range.forIn_eq_forIn_range',Std.Legacy.Range.size,List.range'_succ]
 have he:∀ (a b:Int) (w:World),(Op.equalIn (d+1) 3 (.int .i64 a) (.int .i64 b)).run Try.prog w = .ok (a==b) w:=fun a b w=>run_equalIn_int w d 3 .i64 .i64 a b hu
 simp [forIn,part,hi,hz1,he,-beq_eq_false_iff_ne,-beq_iff_eq,-bne_iff_ne]
 repeat (split<;>simp_all [-beq_eq_false_iff_ne,-beq_iff_eq])
end
section
attribute [local go_sem] Yr Yt YM YN Yi Yj Ys Yu
def QB.l0:Nat→List Int→Int→Int→Option (Bool)
 | 0,_,_,_=>none
 | k+1,x0,x1,x5=>if x5<(x0.length:Int) then (if 0≤x5 then ((Ya.f (rd x0 x5) 0 (wrap64 (x1-1))).bind fun qmY=>(if qmY=true then (if x5>0 then (if 0≤(wrap64 (x5-1)) then (if (wrap64 (x5-1))<(x0.length:Int) then (if (rd x0 x5)≤(rd x0 (wrap64 (x5-1))) then (some false) else (QB.l0 k x0 x1 (wrap64 (x5+1)))) else (none)) else (none)) else (QB.l0 k x0 x1 (wrap64 (x5+1)))) else (some false))) else (none)) else (some true)
def QB.f (k:Nat) (l0:List Int) (a1:Int):Option (Bool):=QB.l0 k l0 a1 0
set_option maxHeartbeats 8000000 in
set_option maxRecDepth 100000 in
theorem QB.calls (k:Nat) (A0:Option Addr) (c0:Nat) (l0:List Int) (a1:Int) (r:Bool) (w:World) (hr0:Kd.C (Kd.int .i64) w A0 l0.length l0) (hc0:l0.length≤c0) (h:QB.f k l0 a1=some r) :
  Calls Try.prog 53 #[.slice A0 l0.length c0,.int .i64 a1] w fun e w'=>e = .returned (.bool r)∧QS w w':=by
 have HR0:=Q1.mk hr0
 have HC0:=Q1.mk hc0
 clear hr0 hc0
 have H:(QB.l0 k l0 a1 0)=some r:=h
 clear h
 have H':=Q1.mk H
 clear H
 go_enter Try.func53,Try.ntmps53
 go_wp2
 repeat (go_quiet (fail);try go_wp2)
 go_loopg [5] k (fun kq v5 w' => ∃ (QV:Int),v5 = .int .i64 QV∧Q1 (QB.l0 kq l0 a1 QV=some r)∧Q1 (kq≤k)∧QS w w')
 case atStart=>exact ⟨(0),(by first|rfl|(simp;done)|(simp [*];done)),H',⟨Nat.le_refl _⟩,by repeat (first|exact QS.refl _|apply QS.step)⟩
 case round =>
  clear H'
  try clear p2
  obtain ⟨QV,rfl,HA,HK1,⟨m1,rfl⟩⟩:=hrel
  cases gk with
  | zero=>exact absurd HA.out (by simp [QB.l0])
  | succ k1 =>
   have H:=HA.out
   clear HA
   simp only [QB.l0] at H
   by_cases c3:QV<(l0.length:Int)
   ·
    rw [if_pos c3] at H;have c3b0:decide (QV<(l0.length:Int))=true:=decide_eq_true c3;clear c3
    by_cases c4:0≤QV
    ·
     rw [if_pos c4] at H;have c4b0:decide (0≤QV)=true:=decide_eq_true c4;clear c4;replace H:=Option.bind_eq_some_iff.mp H;obtain ⟨qmY,A50,H⟩:=H;replace H:(if qmY=true then (if QV>0 then (if 0≤(wrap64 (QV-1)) then (if (wrap64 (QV-1))<(l0.length:Int) then (if (rd l0 QV)≤(rd l0 (wrap64 (QV-1))) then (some false) else (QB.l0 k1 l0 a1 (wrap64 (QV+1)))) else (none)) else (none)) else (QB.l0 k1 l0 a1 (wrap64 (QV+1)))) else (some false))=some r:=H;have A5:=Q1.mk A50;clear A50
     by_cases c6:qmY=true
     ·
      subst c6
      have H1:(if QV>0 then (if 0≤(wrap64 (QV-1)) then (if (wrap64 (QV-1))<(l0.length:Int) then (if (rd l0 QV)≤(rd l0 (wrap64 (QV-1))) then (some false) else (QB.l0 k1 l0 a1 (wrap64 (QV+1)))) else (none)) else (none)) else (QB.l0 k1 l0 a1 (wrap64 (QV+1))))=some r:=by rw [if_pos rfl] at H;exact H
      clear H;have H:=H1;clear H1
      by_cases c7:QV>0
      ·
       rw [if_pos c7] at H;have c7b0:decide (0<QV)=true:=decide_eq_true c7;clear c7;obtain ⟨ji8,qjW⟩:∃ j_:Int,(wrap64 (QV-1))=j_:=⟨_,rfl⟩
       replace H:(if 0≤(ji8) then (if (ji8)<(l0.length:Int) then (if (rd l0 QV)≤(rd l0 (ji8)) then (some false) else (QB.l0 k1 l0 a1 (wrap64 (QV+1)))) else (none)) else (none))=some r:=by first|(rw [qjW] at H;exact H)|(simp only [qjW] at H ⊢;exact H)
       (try rw [qjW] at A5)
       have hji8w:(IntKind.i64.wrap (QV-1))=ji8:=(Yn _).trans qjW
       by_cases c9:0≤(ji8)
       ·
        rw [if_pos c9] at H;have c9b0:decide (0≤(ji8))=true:=decide_eq_true c9;clear c9
        by_cases c10:(ji8)<(l0.length:Int)
        ·
         rw [if_pos c10] at H;have c10b0:decide ((ji8)<(l0.length:Int))=true:=decide_eq_true c10;clear c10;obtain ⟨adJ,eJ,hxJ_0⟩:=Kd.at_int HR0.out (ji8) (of_decide_eq_true c9b0) (of_decide_eq_true c10b0);cases eJ;have pJ:=eq_true (of_decide_eq_true c9b0);have qJ:=eq_true (of_decide_eq_true c10b0);have hwaJ:IntKind.i64.wrap (a1-1)=wrap64 (a1-1):=Yn _
         by_cases c11:(rd l0 QV)≤(rd l0 (ji8))
         ·
          rw [if_pos c11] at H;have c11b0:decide ((rd l0 QV)≤(rd l0 (ji8)))=true:=decide_eq_true c11;clear c11;obtain rfl:=Option.some.inj H;have X3:0≤(QV:Int):=of_decide_eq_true (by first|(with_reducible assumption)|assumption);have X6:QV<(l0.length:Int):=of_decide_eq_true (by first|(with_reducible assumption)|assumption);obtain ⟨qjr,qf0,qdF⟩:=Kd.at_int HR0.out QV X3 X6;cases qf0;replace X3:=eq_true X3;replace X6:=eq_true X6
          go_wp2_with (first|(go_at_call 34;(with_reducible refine (Ya.calls (rd l0 QV) 0 (wrap64 (a1-1)) true _ A5.out).mono ?_);rintro e w' ⟨rfl,⟨nd,rfl⟩⟩;(try first|exact ⟨rfl,_,World.drewN_drewN _ _ _⟩|exact ⟨rfl,_,Eq.trans (World.drewN_drewN _ _ _) (congrArg (World.drewN _) (Nat.add_assoc _ _ _))⟩)))
          repeat (go_quiet (first|(go_at_call 34;(with_reducible refine (Ya.calls (rd l0 QV) 0 (wrap64 (a1-1)) true _ A5.out).mono ?_);rintro e w' ⟨rfl,⟨nd,rfl⟩⟩;(try first|exact ⟨rfl,_,World.drewN_drewN _ _ _⟩|exact ⟨rfl,_,Eq.trans (World.drewN_drewN _ _ _) (congrArg (World.drewN _) (Nat.add_assoc _ _ _))⟩)));try go_wp2_with (first|(go_at_call 34;(with_reducible refine (Ya.calls (rd l0 QV) 0 (wrap64 (a1-1)) true _ A5.out).mono ?_);rintro e w' ⟨rfl,⟨nd,rfl⟩⟩;(try first|exact ⟨rfl,_,World.drewN_drewN _ _ _⟩|exact ⟨rfl,_,Eq.trans (World.drewN_drewN _ _ _) (congrArg (World.drewN _) (Nat.add_assoc _ _ _))⟩))))
          go_ret
          exact ⟨by first|rfl|(simp;done)|(simp only [← qjW]<;>(first|rfl|simp))|(simp [*];done),by repeat (first|exact QS.refl _|apply QS.step)⟩
         rw [if_neg c11] at H;have c11b0:decide ((rd l0 QV)≤(rd l0 (ji8)))=false:=decide_eq_false c11;clear c11;have H':=Q1.mk H;clear H;have X3:0≤(QV:Int):=of_decide_eq_true (by first|(with_reducible assumption)|assumption);have X6:QV<(l0.length:Int):=of_decide_eq_true (by first|(with_reducible assumption)|assumption);obtain ⟨qjr,qf0,qdF⟩:=Kd.at_int HR0.out QV X3 X6;cases qf0;replace X3:=eq_true X3;replace X6:=eq_true X6
         go_wp2_with (first|(go_at_call 34;(with_reducible refine (Ya.calls (rd l0 QV) 0 (wrap64 (a1-1)) true _ A5.out).mono ?_);rintro e w' ⟨rfl,⟨nd,rfl⟩⟩;(try first|exact ⟨rfl,_,World.drewN_drewN _ _ _⟩|exact ⟨rfl,_,Eq.trans (World.drewN_drewN _ _ _) (congrArg (World.drewN _) (Nat.add_assoc _ _ _))⟩)))
         repeat (go_quiet (first|(go_at_call 34;(with_reducible refine (Ya.calls (rd l0 QV) 0 (wrap64 (a1-1)) true _ A5.out).mono ?_);rintro e w' ⟨rfl,⟨nd,rfl⟩⟩;(try first|exact ⟨rfl,_,World.drewN_drewN _ _ _⟩|exact ⟨rfl,_,Eq.trans (World.drewN_drewN _ _ _) (congrArg (World.drewN _) (Nat.add_assoc _ _ _))⟩)));try go_wp2_with (first|(go_at_call 34;(with_reducible refine (Ya.calls (rd l0 QV) 0 (wrap64 (a1-1)) true _ A5.out).mono ?_);rintro e w' ⟨rfl,⟨nd,rfl⟩⟩;(try first|exact ⟨rfl,_,World.drewN_drewN _ _ _⟩|exact ⟨rfl,_,Eq.trans (World.drewN_drewN _ _ _) (congrArg (World.drewN _) (Nat.add_assoc _ _ _))⟩))))
         go_roundg k1
         case measure=>have:=HK1.out;omega
         case rel=>exact ⟨(wrap64 (QV+1)),(by first|rfl|(simp;done)|(simp [*];done)),H',⟨by have:=HK1.out;omega⟩,by repeat (first|exact QS.refl _|apply QS.step)⟩
        rw [if_neg c10] at H
        exact absurd H (by simp)
       rw [if_neg c9] at H
       exact absurd H (by simp)
      rw [if_neg c7] at H;have c7b0:decide (0<QV)=false:=decide_eq_false c7;clear c7;have H':=Q1.mk H;clear H;have X3:0≤(QV:Int):=of_decide_eq_true (by first|(with_reducible assumption)|assumption);have X6:QV<(l0.length:Int):=of_decide_eq_true (by first|(with_reducible assumption)|assumption);obtain ⟨qjr,qf0,qdF⟩:=Kd.at_int HR0.out QV X3 X6;cases qf0;replace X3:=eq_true X3;replace X6:=eq_true X6
      go_wp2_with (first|(go_at_call 34;(with_reducible refine (Ya.calls (rd l0 QV) 0 (wrap64 (a1-1)) true _ A5.out).mono ?_);rintro e w' ⟨rfl,⟨nd,rfl⟩⟩;(try first|exact ⟨rfl,_,World.drewN_drewN _ _ _⟩|exact ⟨rfl,_,Eq.trans (World.drewN_drewN _ _ _) (congrArg (World.drewN _) (Nat.add_assoc _ _ _))⟩)))
      repeat (go_quiet (first|(go_at_call 34;(with_reducible refine (Ya.calls (rd l0 QV) 0 (wrap64 (a1-1)) true _ A5.out).mono ?_);rintro e w' ⟨rfl,⟨nd,rfl⟩⟩;(try first|exact ⟨rfl,_,World.drewN_drewN _ _ _⟩|exact ⟨rfl,_,Eq.trans (World.drewN_drewN _ _ _) (congrArg (World.drewN _) (Nat.add_assoc _ _ _))⟩)));try go_wp2_with (first|(go_at_call 34;(with_reducible refine (Ya.calls (rd l0 QV) 0 (wrap64 (a1-1)) true _ A5.out).mono ?_);rintro e w' ⟨rfl,⟨nd,rfl⟩⟩;(try first|exact ⟨rfl,_,World.drewN_drewN _ _ _⟩|exact ⟨rfl,_,Eq.trans (World.drewN_drewN _ _ _) (congrArg (World.drewN _) (Nat.add_assoc _ _ _))⟩))))
      go_roundg k1
      case measure=>have:=HK1.out;omega
      case rel=>exact ⟨(wrap64 (QV+1)),(by first|rfl|(simp;done)|(simp [*];done)),H',⟨by have:=HK1.out;omega⟩,by repeat (first|exact QS.refl _|apply QS.step)⟩
     replace c6:=Bool.eq_false_iff.mpr c6;subst c6
     have H1:(some false)=some r:=by rw [if_neg (show ¬ (false=true) by decide)] at H;exact H
     clear H;have H:=H1;clear H1;obtain rfl:=Option.some.inj H;have X3:0≤(QV:Int):=of_decide_eq_true (by first|(with_reducible assumption)|assumption);have X6:QV<(l0.length:Int):=of_decide_eq_true (by first|(with_reducible assumption)|assumption);obtain ⟨qjr,qf0,qdF⟩:=Kd.at_int HR0.out QV X3 X6;cases qf0;replace X3:=eq_true X3;replace X6:=eq_true X6
     go_wp2_with (first|(go_at_call 34;(with_reducible refine (Ya.calls (rd l0 QV) 0 (wrap64 (a1-1)) false _ A5.out).mono ?_);rintro e w' ⟨rfl,⟨nd,rfl⟩⟩;(try first|exact ⟨rfl,_,World.drewN_drewN _ _ _⟩|exact ⟨rfl,_,Eq.trans (World.drewN_drewN _ _ _) (congrArg (World.drewN _) (Nat.add_assoc _ _ _))⟩)))
     repeat (go_quiet (first|(go_at_call 34;(with_reducible refine (Ya.calls (rd l0 QV) 0 (wrap64 (a1-1)) false _ A5.out).mono ?_);rintro e w' ⟨rfl,⟨nd,rfl⟩⟩;(try first|exact ⟨rfl,_,World.drewN_drewN _ _ _⟩|exact ⟨rfl,_,Eq.trans (World.drewN_drewN _ _ _) (congrArg (World.drewN _) (Nat.add_assoc _ _ _))⟩)));try go_wp2_with (first|(go_at_call 34;(with_reducible refine (Ya.calls (rd l0 QV) 0 (wrap64 (a1-1)) false _ A5.out).mono ?_);rintro e w' ⟨rfl,⟨nd,rfl⟩⟩;(try first|exact ⟨rfl,_,World.drewN_drewN _ _ _⟩|exact ⟨rfl,_,Eq.trans (World.drewN_drewN _ _ _) (congrArg (World.drewN _) (Nat.add_assoc _ _ _))⟩))))
     go_ret
     exact ⟨by first|rfl|(simp;done)|(simp [*];done),by repeat (first|exact QS.refl _|apply QS.step)⟩
    rw [if_neg c4] at H
    exact absurd H (by simp)
   rw [if_neg c3] at H
   have c3b0:decide (QV<(l0.length:Int))=false:=decide_eq_false c3
   clear c3
   obtain rfl:=Option.some.inj H
   go_wp2
   repeat (go_quiet (fail);try go_wp2)
   go_ret
   exact ⟨by first|rfl|(simp;done)|(simp [*];done),by repeat (first|exact QS.refl _|apply QS.step)⟩
end
section
attribute [local go_sem] Yr Yt YM YN Yi Yj Ys Yu
def Jg.f (a0:Int) (a1:Int):Option (Bool):=if 0≤a1 then (some ((Go.bits .and .i64 (shr .i64 a0 a1) 1)==1)) else (none)
set_option maxHeartbeats 8000000 in
set_option maxRecDepth 100000 in
theorem Jg.calls (a0:Int) (a1:Int) (r:Bool) (w:World) (h:Jg.f a0 a1=some r) :
  Calls Try.prog 93 #[.int .i64 a0,.int .i64 a1] w fun e w'=>e = .returned (.bool r)∧QS w w':=by
 have H:(if 0≤a1 then (some ((Go.bits .and .i64 (shr .i64 a0 a1) 1)==1)) else (none))=some r:=h
 clear h
 by_cases c3:0≤a1
 ·
  rw [if_pos c3] at H
  have c3b0:=eq_true c3
  have c3b1:decide (0≤a1)=true:=decide_eq_true c3
  clear c3
  obtain ⟨ji4,qcm⟩:∃ j_:Int,(shr .i64 a0 a1)=j_:=⟨_,rfl⟩
  replace H:(some ((Go.bits .and .i64 (ji4) 1)==1))=some r:=by first|(rw [qcm] at H;exact H)|(simp only [qcm] at H ⊢;exact H)
  have hji4_:(a0 / 2 ^ min a1.toNat 64)=ji4:=qcm
  have hji4z:a1≤64→(a0 / 2 ^ a1.toNat)=ji4:=qcQ qcm
  obtain rfl:=Option.some.inj H
  go_enter Try.func93,Try.ntmps93
  go_wp2
  go_ret
  exact ⟨by first|rfl|(simp;done)|(simp only [← qcm]<;>(first|rfl|simp))|(simp [*];done),by repeat (first|exact QS.refl _|apply QS.step)⟩
 rw [if_neg c3] at H
 exact absurd H (by simp)
end
section
attribute [local go_sem] Yr Yt YM YN Yi Yj Ys Yu
def Qx.l0:Nat→Int→Int→List Int→Int→Option (List Int)
 | 0,_,_,_,_=>none
 | k+1,x0,x1,x5,x6=>if x6<x1 then ((Jg.f x0 x6).bind fun qmZ=>(if qmZ=true then (if x5.length<17592186044416 then (Qx.l0 k x0 x1 (x5++[x6]) (wrap64 (x6+1))) else (none)) else (Qx.l0 k x0 x1 x5 (wrap64 (x6+1))))) else (some x5)
def Qx.f (k:Nat) (a0:Int) (a1:Int):Option (List Int):=Qx.l0 k a0 a1 ([]:List Int) 0
set_option maxHeartbeats 8000000 in
set_option maxRecDepth 100000 in
theorem Qx.calls (k:Nat) (a0:Int) (a1:Int) (r:List Int) (w:World) (h:Qx.f k a0 a1=some r) :
  Calls Try.prog 55 #[.int .i64 a0,.int .i64 a1] w fun e w' => ∃ v0_:Value,e = .returned (v0_)∧Kd.R (Kd.int .i64) 3 w' w.heap.size (fun _=>True) v0_ r∧Below w.heap.size w w':=by
 have HB:=Q1.mk (Below.refl w.heap.size w)
 have H:(Qx.l0 k a0 a1 ([]:List Int) 0)=some r:=h
 clear h
 have H':=Q1.mk H
 clear H
 go_enter Try.func55,Try.ntmps55
 go_wp2
 go_loopg [5,6] k (fun kq v5 v6 w' => ∃ (QV:List Int) (Jx:Int),v6 = .int .i64 Jx∧Q1 (Qx.l0 kq a0 a1 QV Jx=some r)∧Q1 (kq≤k)∧Q1 (Kd.R (Kd.int .i64) 3 w' w.heap.size (fun _=>True) v5 QV)∧Q1 (Below w.heap.size w w'))
 case atStart=>exact ⟨(([]:List Int)),(0),(by first|rfl|(simp;done)|(simp [*];done)),H',⟨Nat.le_refl _⟩,⟨by first|exact Kd.R_nil _ _ _ _ _|exact Kd.N_nil _ _ _ _ _|exact Kd.V_nil _ _ _ _ _|exact Kd.Q_nil _ _ _ _ _|exact Kd.S_nil _ _ _ _ _⟩,⟨by repeat (first|(with_reducible first|exact HB.out|apply Q2|apply Q0|apply Q5)|exact HB.out)⟩⟩
 case round =>
  clear H'
  try clear p2
  obtain ⟨QV,Jx,rfl,HA,HK1,HO_5,HB⟩:=hrel
  cases gk with
  | zero=>exact absurd HA.out (by simp [Qx.l0])
  | succ k1 =>
   have H:=HA.out
   clear HA
   simp only [Qx.l0] at H
   by_cases c3:Jx<a1
   ·
    rw [if_pos c3] at H;have c3b0:decide (Jx<a1)=true:=decide_eq_true c3;clear c3;replace H:=Option.bind_eq_some_iff.mp H;obtain ⟨qmZ,A40,H⟩:=H;replace H:(if qmZ=true then (if QV.length<17592186044416 then (Qx.l0 k1 a0 a1 (QV++[Jx]) (wrap64 (Jx+1))) else (none)) else (Qx.l0 k1 a0 a1 QV (wrap64 (Jx+1))))=some r:=H;have A4:=Q1.mk A40;clear A40
    by_cases c5:qmZ=true
    ·
     subst c5
     have H1:(if QV.length<17592186044416 then (Qx.l0 k1 a0 a1 (QV++[Jx]) (wrap64 (Jx+1))) else (none))=some r:=by rw [if_pos rfl] at H;exact H
     clear H;have H:=H1;clear H1
     by_cases c6:QV.length<17592186044416
     ·
      rw [if_pos c6] at H;have qyz:=Q1.mk c6;clear c6;obtain ⟨qsk,qe9⟩:∃ y_:List Int,y_=(QV++[Jx]):=⟨_,rfl⟩
      replace H:(Qx.l0 k1 a0 a1 qsk (wrap64 (Jx+1)))=some r:=by first|(rw [qe9];with_reducible exact H)|(have H2_:=(Option.bind_some _ _).symm.trans H;rw [qe9];with_reducible exact H2_)|(have H2_:=(Option.bind_some _ _).symm.trans H;with_reducible exact H2_)|with_reducible exact H|(rw [qe9];exact H)|exact H
      have qpW:=Q1.mk qe9;clear qe9;have H':=Q1.mk H;clear H
      go_wp2_with (first|((with_reducible refine Qp (f:=93) rfl ?_);refine Yd (some 14) rfl rfl Try.func93 (by kernel_rfl) rfl #[.int .i64 a0,.int .i64 Jx] rfl (by (try simp only [List.map_toArray,List.map_cons,List.map_nil]);first|done|rfl|(simp only [List.length_drop,List.length_take];rfl)) ?_;(with_reducible refine (Jg.calls a0 Jx true _ A4.out).mono ?_);rintro e w' ⟨rfl,⟨nd,rfl⟩⟩;refine ⟨_,rfl,?_⟩)|((with_reducible refine qdd (b:=.append) (xs:=#[.tmp 15,.tmp 17]) rfl ?_);at_builtin;refine Kd.R_append (Kd.int .i64) (w0:=w) w.heap.size rfl (.tmp 15) (.tmp 17) 37 3 (.int .i64 0) 8 rfl Try.underlying37 XU rfl (by decide) (by omega) u5 QV Jx [.int .i64 Jx] (fun _=>True) (fun _=>False) rfl rfl ?aP (fun _ hk=>hk.elim) ?aF ?aO ?aB ?aS ?aL ?_;(case aP=>exact rfl);(case aB=>exact (by repeat (first|(with_reducible first|exact HB.out|apply Q2|apply Q0|apply Q5)|exact HB.out)));(case aF=>exact (fun _ _=>trivial));(case aO=>exact (by (with_reducible repeat (first|apply Kd.R_alloc|apply Kd.R_drewN|apply Kd.R_drew));exact HO_5.out));(case aS=>exact (Qe (by repeat (first|(with_reducible first|exact HB.out|apply Q2|apply Q0|apply Q5)|exact HB.out))));(case aL=>have:=qyz.out;omega);intro qDJ w7 ho hb hg hat;rw [← qpW.out] at ho;have n0_:=Q1.mk (hb);have n1_:=Q1.mk (ho);clear HB HO_5;have HB:=n0_;have qpS:=n1_;clear n0_ n1_ ho hb hg hat))
      go_roundg k1
      case measure=>have:=HK1.out;omega
      case rel=>exact ⟨(qsk),(wrap64 (Jx+1)),(by first|rfl|(simp;done)|(simp [*];done)),H',⟨by have:=HK1.out;omega⟩,⟨by (with_reducible repeat (first|apply Kd.R_alloc|apply Kd.R_drewN|apply Kd.R_drew));exact qpS.out⟩,⟨by repeat (first|(with_reducible first|exact HB.out|apply Q2|apply Q0|apply Q5)|exact HB.out)⟩⟩
     rw [if_neg c6] at H
     exact absurd H (by simp)
    replace c5:=Bool.eq_false_iff.mpr c5;subst c5
    have H1:(Qx.l0 k1 a0 a1 QV (wrap64 (Jx+1)))=some r:=by rw [if_neg (show ¬ (false=true) by decide)] at H;exact H
    clear H;have H:=H1;clear H1;have H':=Q1.mk H;clear H
    go_wp2_with (first|((with_reducible refine Qp (f:=93) rfl ?_);refine Yd (some 14) rfl rfl Try.func93 (by kernel_rfl) rfl #[.int .i64 a0,.int .i64 Jx] rfl (by (try simp only [List.map_toArray,List.map_cons,List.map_nil]);first|done|rfl|(simp only [List.length_drop,List.length_take];rfl)) ?_;(with_reducible refine (Jg.calls a0 Jx false _ A4.out).mono ?_);rintro e w' ⟨rfl,⟨nd,rfl⟩⟩;refine ⟨_,rfl,?_⟩))
    go_roundg k1
    case measure=>have:=HK1.out;omega
    case rel=>exact ⟨(QV),(wrap64 (Jx+1)),(by first|rfl|(simp;done)|(simp [*];done)),H',⟨by have:=HK1.out;omega⟩,⟨by (with_reducible repeat (first|apply Kd.R_alloc|apply Kd.R_drewN|apply Kd.R_drew));exact HO_5.out⟩,⟨by repeat (first|(with_reducible first|exact HB.out|apply Q2|apply Q0|apply Q5)|exact HB.out)⟩⟩
   rw [if_neg c3] at H
   have c3b0:decide (Jx<a1)=false:=decide_eq_false c3
   clear c3
   obtain rfl:=Option.some.inj H
   go_wp2
   go_ret
   exact ⟨_,by first|rfl|(simp [Qs,Qt]<;>rfl)|(simp [*,Qs,Qt]<;>rfl),by (with_reducible repeat (first|apply Kd.R_alloc|apply Kd.R_drewN|apply Kd.R_drew));exact HO_5.out,by repeat (first|(with_reducible first|exact HB.out|apply Q2|apply Q0|apply Q5)|exact HB.out)⟩
end
section
attribute [local go_sem] Yr Yt YM YN Yi Yj Ys Yu
mutual
def Qu.l0:Nat→List Int→List Int→Int→Option (Bool)
 | 0,_,_,_=>none
 | k+1,x0,x1,x5=>if x5<(x0.length:Int) then (Qu.j1 k x0 x1 x5 (decide (x5<(x1.length:Int)))) else (Qu.j1 k x0 x1 x5 false)
def Qu.j1:Nat→List Int→List Int→Int→Bool→Option (Bool)
 | 0,_,_,_,_=>none
 | k+1,x0,x1,x5,x15=>if x15=true then (if 0≤x5 then (if x5<(x0.length:Int) then (if x5<(x1.length:Int) then (if (rd x0 x5)=(rd x1 x5) then (Qu.l0 k x0 x1 (wrap64 (x5+1))) else (some (decide ((rd x0 x5)<(rd x1 x5))))) else (none)) else (none)) else (none)) else (some (decide ((x0.length:Int)<(x1.length:Int))))
end
def Qu.f (k:Nat) (l0:List Int) (l1:List Int):Option (Bool):=Qu.l0 k l0 l1 0
set_option maxHeartbeats 8000000 in
set_option maxRecDepth 100000 in
theorem Qu.calls (k:Nat) (A0:Option Addr) (c0:Nat) (l0:List Int) (A1:Option Addr) (c1:Nat) (l1:List Int) (r:Bool) (w:World) (hr0:Kd.C (Kd.int .i64) w A0 l0.length l0) (hc0:l0.length≤c0) (hr1:Kd.C (Kd.int .i64) w A1 l1.length l1) (hc1:l1.length≤c1) (h:Qu.f k l0 l1=some r) :
  Calls Try.prog 56 #[.slice A0 l0.length c0,.slice A1 l1.length c1] w fun e w'=>e = .returned (.bool r)∧QS w w':=by
 have HR0:=Q1.mk hr0
 have HC0:=Q1.mk hc0
 clear hr0 hc0
 have HR1:=Q1.mk hr1
 have HC1:=Q1.mk hc1
 clear hr1 hc1
 have H:(Qu.l0 k l0 l1 0)=some r:=h
 clear h
 have H':=Q1.mk H
 clear H
 go_enter Try.func56,Try.ntmps56
 go_wp2
 repeat (go_quiet (fail);try go_wp2)
 go_loopg [5] k (fun kq v5 w' => ∃ (QV:Int),v5 = .int .i64 QV∧Q1 (Qu.l0 kq l0 l1 QV=some r)∧Q1 (kq≤k)∧QS w w')
 case atStart=>exact ⟨(0),(by first|rfl|(simp;done)|(simp [*];done)),H',⟨Nat.le_refl _⟩,by repeat (first|exact QS.refl _|apply QS.step)⟩
 case round =>
  clear H'
  try clear c1
  try clear p2
  obtain ⟨QV,rfl,HA,HK1,⟨m1,rfl⟩⟩:=hrel
  cases gk with
  | zero=>exact absurd HA.out (by simp [Qu.l0])
  | succ k1 =>
   have H:=HA.out
   clear HA
   simp only [Qu.l0] at H
   have HC3:=Q1.mk H
   clear H
   go_upto_region 2 with (fail)
   repeat (go_quiet (fail);go_upto_region 2 with (fail))
   go_cut [15] (fun v15 wc => ∃ (kq:Nat) (qh6:Bool),v15 = .bool qh6∧Q1 (Qu.j1 kq l0 l1 QV qh6=some r)∧Q1 (kq≤k1)∧QS w wc)
   case first =>
    have H:=HC3.out;clear HC3
    by_cases c4:QV<(l0.length:Int)
    ·
     rw [if_pos c4] at H;have c4b0:decide (QV<(l0.length:Int))=true:=decide_eq_true c4;clear c4
     (first|rw [c4b0]|(simp only [Yn,YA];rw [c4b0])|skip)
     have H':=Q1.mk H;clear H
     go_wp2
     repeat (go_quiet (fail);try go_wp2)
     go_meet
     case rel=>exact ⟨_,(decide (QV<(l1.length:Int))),(by first|rfl|(simp;done)|(simp [*];done)),H',⟨by have:=HK1.out;first|omega|exact Nat.le_refl _⟩,by repeat (first|exact QS.refl _|apply QS.step)⟩
    rw [if_neg c4] at H;have c4b0:decide (QV<(l0.length:Int))=false:=decide_eq_false c4;clear c4
    (first|rw [c4b0]|(simp only [Yn,YA];rw [c4b0])|skip)
    have H':=Q1.mk H;clear H
    go_wp2
    repeat (go_quiet (fail);try go_wp2)
    go_meet
    case rel=>exact ⟨_,(false),(by first|rfl|(simp;done)|(simp [*];done)),H',⟨by have:=HK1.out;first|omega|exact Nat.le_refl _⟩,by repeat (first|exact QS.refl _|apply QS.step)⟩
   case rest =>
    clear HC3;(try clear c1);(try clear p2);(try clear c4);(try clear c4b0);(try clear p2);obtain ⟨kq,qh6,rfl,HA,HJ2,⟨mc2,rfl⟩⟩:=hcut
    cases kq with
    | zero=>exact absurd HA.out (by simp [Qu.j1])
    | succ kj2 =>
     have H:=HA.out;clear HA;simp only [Qu.j1] at H
     by_cases c5:qh6=true
     ·
      subst c5
      have H1:(if 0≤QV then (if QV<(l0.length:Int) then (if QV<(l1.length:Int) then (if (rd l0 QV)=(rd l1 QV) then (Qu.l0 kj2 l0 l1 (wrap64 (QV+1))) else (some (decide ((rd l0 QV)<(rd l1 QV))))) else (none)) else (none)) else (none))=some r:=by rw [if_pos rfl] at H;exact H
      clear H;have H:=H1;clear H1
      by_cases c6:0≤QV
      ·
       rw [if_pos c6] at H;have c6b0:decide (0≤QV)=true:=decide_eq_true c6;clear c6
       by_cases c7:QV<(l0.length:Int)
       ·
        rw [if_pos c7] at H;have c7b0:decide (QV<(l0.length:Int))=true:=decide_eq_true c7;clear c7
        by_cases c8:QV<(l1.length:Int)
        ·
         rw [if_pos c8] at H;have c8b0:decide (QV<(l1.length:Int))=true:=decide_eq_true c8;clear c8
         by_cases c9:(rd l0 QV)=(rd l1 QV)
         ·
          rw [if_pos c9] at H;have c9b0:((rd l0 QV)==(rd l1 QV))=true:=beq_iff_eq.mpr c9;have c9b1:((rd l0 QV) != (rd l1 QV))=false:=bne_eq_false_iff_eq.mpr c9;clear c9;have H':=Q1.mk H;clear H;have qgx:0≤(QV:Int):=of_decide_eq_true (by first|(with_reducible assumption)|assumption);have qgL:QV<(l0.length:Int):=of_decide_eq_true (by first|(with_reducible assumption)|assumption);obtain ⟨qnL,qou,qmr⟩:=Kd.at_int HR0.out QV qgx qgL;cases qou;replace qgx:=eq_true qgx;replace qgL:=eq_true qgL;have qgy:0≤(QV:Int):=of_decide_eq_true (by first|(with_reducible assumption)|assumption);have qgM:QV<(l1.length:Int):=of_decide_eq_true (by first|(with_reducible assumption)|assumption);obtain ⟨qnM,qov,qms⟩:=Kd.at_int HR1.out QV qgy qgM;cases qov;replace qgy:=eq_true qgy;replace qgM:=eq_true qgM
          go_wp2
          repeat (go_quiet (fail);try go_wp2)
          go_roundg kj2
          case measure=>have:=HK1.out;have:=HJ2.out;omega
          case rel=>exact ⟨(wrap64 (QV+1)),(by first|rfl|(simp;done)|(simp [*];done)),H',⟨by have:=HK1.out;have:=HJ2.out;omega⟩,by repeat (first|exact QS.refl _|apply QS.step)⟩
         rw [if_neg c9] at H;have c9b0:((rd l0 QV)==(rd l1 QV))=false:=beq_eq_false_iff_ne.mpr c9;have c9b1:((rd l0 QV) != (rd l1 QV))=true:=bne_iff_ne.mpr c9;obtain rfl:=Option.some.inj H;have qgx:0≤(QV:Int):=of_decide_eq_true (by first|(with_reducible assumption)|assumption);have qgL:QV<(l0.length:Int):=of_decide_eq_true (by first|(with_reducible assumption)|assumption);obtain ⟨qnL,qou,qmr⟩:=Kd.at_int HR0.out QV qgx qgL;cases qou;replace qgx:=eq_true qgx;replace qgL:=eq_true qgL;have qgy:0≤(QV:Int):=of_decide_eq_true (by first|(with_reducible assumption)|assumption);have qgM:QV<(l1.length:Int):=of_decide_eq_true (by first|(with_reducible assumption)|assumption);obtain ⟨qnM,qov,qms⟩:=Kd.at_int HR1.out QV qgy qgM;cases qov;replace qgy:=eq_true qgy;replace qgM:=eq_true qgM;have qo2:0≤(QV:Int):=of_decide_eq_true (by first|(with_reducible assumption)|assumption);have qpc:QV<(l0.length:Int):=of_decide_eq_true (by first|(with_reducible assumption)|assumption);obtain ⟨qqa,qyZ,qx4⟩:=Kd.at_int HR0.out QV qo2 qpc;obtain rfl:qnL=qqa:=(by injection qyZ);replace qo2:=eq_true qo2;replace qpc:=eq_true qpc;have qo3:0≤(QV:Int):=of_decide_eq_true (by first|(with_reducible assumption)|assumption);have qpd:QV<(l1.length:Int):=of_decide_eq_true (by first|(with_reducible assumption)|assumption);obtain ⟨qqb,qy0,qx5⟩:=Kd.at_int HR1.out QV qo3 qpd;obtain rfl:qnM=qqb:=(by injection qy0);replace qo3:=eq_true qo3;replace qpd:=eq_true qpd
         go_wp2
         repeat (go_quiet (fail);try go_wp2)
         go_ret
         exact ⟨by first|rfl|(simp;done)|(simp [*];done),by repeat (first|exact QS.refl _|apply QS.step)⟩
        rw [if_neg c8] at H
        exact absurd H (by simp)
       rw [if_neg c7] at H
       exact absurd H (by simp)
      rw [if_neg c6] at H
      exact absurd H (by simp)
     replace c5:=Bool.eq_false_iff.mpr c5;subst c5
     have H1:(some (decide ((l0.length:Int)<(l1.length:Int))))=some r:=by rw [if_neg (show ¬ (false=true) by decide)] at H;exact H
     clear H;have H:=H1;clear H1;obtain rfl:=Option.some.inj H
     go_wp2
     repeat (go_quiet (fail);try go_wp2)
     go_ret
     exact ⟨by first|rfl|(simp;done)|(simp [*];done),by repeat (first|exact QS.refl _|apply QS.step)⟩
end
section
attribute [local go_sem] Yr Yt YM YN Yi Yj Ys Yu
def Yo.l0:Nat→List Int→Int→Int→Option (Int)
 | 0,_,_,_=>none
 | k+1,x0,x1,x5=>if x5<(x0.length:Int) then (if 0≤x5 then (if (rd x0 x5)=x1 then (some x5) else (Yo.l0 k x0 x1 (wrap64 (x5+1)))) else (none)) else (some (-1))
def Yo.f (k:Nat) (l0:List Int) (a1:Int):Option (Int):=Yo.l0 k l0 a1 0
set_option maxHeartbeats 8000000 in
set_option maxRecDepth 100000 in
theorem Yo.calls (k:Nat) (A0:Option Addr) (c0:Nat) (l0:List Int) (a1:Int) (r:Int) (w:World) (hr0:Kd.C (Kd.int .i64) w A0 l0.length l0) (hc0:l0.length≤c0) (h:Yo.f k l0 a1=some r) :
  Calls Try.prog 112 #[.slice A0 l0.length c0,.int .i64 a1] w fun e w'=>e = .returned (.int .i64 r)∧QS w w':=by
 have HR0:=Q1.mk hr0
 have HC0:=Q1.mk hc0
 clear hr0 hc0
 have H:(Yo.l0 k l0 a1 0)=some r:=h
 clear h
 have H':=Q1.mk H
 clear H
 go_enter Try.func112,Try.ntmps112
 go_wp2
 go_loopg [5] k (fun kq v5 w' => ∃ (QV:Int),v5 = .int .i64 QV∧Q1 (Yo.l0 kq l0 a1 QV=some r)∧Q1 (kq≤k)∧QS w w')
 case atStart=>exact ⟨(0),(by first|rfl|(simp;done)|(simp [*];done)),H',⟨Nat.le_refl _⟩,by repeat (first|exact QS.refl _|apply QS.step)⟩
 case round =>
  clear H'
  try clear c1
  try clear p2
  obtain ⟨QV,rfl,HA,HK1,⟨m1,rfl⟩⟩:=hrel
  cases gk with
  | zero=>exact absurd HA.out (by simp [Yo.l0])
  | succ k1 =>
   have H:=HA.out
   clear HA
   simp only [Yo.l0] at H
   by_cases c3:QV<(l0.length:Int)
   ·
    rw [if_pos c3] at H;have c3b0:decide (QV<(l0.length:Int))=true:=decide_eq_true c3;clear c3
    by_cases c4:0≤QV
    ·
     rw [if_pos c4] at H;have c4b0:decide (0≤QV)=true:=decide_eq_true c4;clear c4
     by_cases c5:(rd l0 QV)=a1
     ·
      rw [if_pos c5] at H;have c5b0:((rd l0 QV)==a1)=true:=beq_iff_eq.mpr c5;have c5b1:((rd l0 QV) != a1)=false:=bne_eq_false_iff_eq.mpr c5;clear c5;obtain rfl:=Option.some.inj H;have qgz:0≤(QV:Int):=of_decide_eq_true (by first|(with_reducible assumption)|assumption);have qgN:QV<(l0.length:Int):=of_decide_eq_true (by first|(with_reducible assumption)|assumption);obtain ⟨qqc,qow,qmt⟩:=Kd.at_int HR0.out QV qgz qgN;cases qow;replace qgz:=eq_true qgz;replace qgN:=eq_true qgN
      go_wp2
      go_ret
      exact ⟨by first|rfl|(simp;done)|(simp [*];done),by repeat (first|exact QS.refl _|apply QS.step)⟩
     rw [if_neg c5] at H;have c5b0:((rd l0 QV)==a1)=false:=beq_eq_false_iff_ne.mpr c5;have c5b1:((rd l0 QV) != a1)=true:=bne_iff_ne.mpr c5;have H':=Q1.mk H;clear H;have qgz:0≤(QV:Int):=of_decide_eq_true (by first|(with_reducible assumption)|assumption);have qgN:QV<(l0.length:Int):=of_decide_eq_true (by first|(with_reducible assumption)|assumption);obtain ⟨qqc,qow,qmt⟩:=Kd.at_int HR0.out QV qgz qgN;cases qow;replace qgz:=eq_true qgz;replace qgN:=eq_true qgN
     go_wp2
     go_roundg k1
     case measure=>have:=HK1.out;omega
     case rel=>exact ⟨(wrap64 (QV+1)),(by first|rfl|(simp;done)|(simp [*];done)),H',⟨by have:=HK1.out;omega⟩,by repeat (first|exact QS.refl _|apply QS.step)⟩
    rw [if_neg c4] at H
    exact absurd H (by simp)
   rw [if_neg c3] at H
   have c3b0:decide (QV<(l0.length:Int))=false:=decide_eq_false c3
   clear c3
   obtain rfl:=Option.some.inj H
   go_wp2
   go_ret
   exact ⟨by first|rfl|(simp;done)|(simp [*];done),by repeat (first|exact QS.refl _|apply QS.step)⟩
end
section
attribute [local go_sem] Yr Yt YM YN Yi Yj Ys Yu
mutual
def Qq.l0:Nat→List (Z7)→List (List Int)→List Int→Int→Int→Int→Option (Int × Int)
 | 0,_,_,_,_,_,_=>none
 | k+1,x0,x1,x2,x8,x9,x10=>if x10<(x0.length:Int) then (Qq.l1 k x0 x1 x2 x8 x9 x10 false 0) else (some (x8,x9))
def Qq.l1:Nat→List (Z7)→List (List Int)→List Int→Int→Int→Int→Bool→Int→Option (Int × Int)
 | 0,_,_,_,_,_,_,_,_=>none
 | k+1,x0,x1,x2,x8,x9,x10,x11,x12=>if x12<(x2.length:Int) then (if x11=true then (Qq.l1 k x0 x1 x2 x8 x9 x10 true (wrap64 (x12+1))) else (if 0≤x12 then (if 0≤(rd x2 x12) then (if (rd x2 x12)<(x1.length:Int) then ((Yo.f k (Y5 x1 (rd x2 x12)) x10).bind fun qd2=>(Qq.l1 k x0 x1 x2 x8 x9 x10 (decide (qd2≥0)) (wrap64 (x12+1)))) else (none)) else (none)) else (none))) else (if x11=true then (if 0≤x10 then (if x10<(x0.length:Int) then (Qq.l0 k x0 x1 x2 (wrap64 (x8+((Zh x0 x10).f0))) (wrap64 (x9+((Zh x0 x10).f1))) (wrap64 (x10+1))) else (none)) else (none)) else (Qq.l0 k x0 x1 x2 x8 x9 (wrap64 (x10+1))))
end
def Qq.f (k:Nat) (l0:List (Z7)) (l1:List (List Int)) (l2:List Int):Option (Int × Int):=Qq.l0 k l0 l1 l2 0 0 0
set_option maxHeartbeats 8000000 in
set_option maxRecDepth 100000 in
theorem Qq.calls (k:Nat) (A0:Option Addr) (c0:Nat) (l0:List (Z7)) (A1:Option Addr) (c1:Nat) (l1:List (List Int)) (A2:Option Addr) (c2:Nat) (l2:List Int) (r1:Int) (r2:Int) (w:World) (hr0:Kd.C UA w A0 l0.length l0) (hc0:l0.length≤c0) (hr1:Kd.C (Kd.slice 3 (Kd.int .i64)) w A1 l1.length l1) (hc1:l1.length≤c1) (hr2:Kd.C (Kd.int .i64) w A2 l2.length l2) (hc2:l2.length≤c2) (h:Qq.f k l0 l1 l2=some (r1,r2)) :
  Calls Try.prog 92 #[.slice A0 l0.length c0,.slice A1 l1.length c1,.slice A2 l2.length c2] w fun e w'=>e = .returned (.tuple #[.int .i64 r1,.int .i64 r2])∧QS w w':=by
 have HR0:=Q1.mk hr0
 have HC0:=Q1.mk hc0
 clear hr0 hc0
 have HR1:=Q1.mk hr1
 have HC1:=Q1.mk hc1
 clear hr1 hc1
 have HR2:=Q1.mk hr2
 have HC2:=Q1.mk hc2
 clear hr2 hc2
 have H:(Qq.l0 k l0 l1 l2 0 0 0)=some (r1,r2):=h
 clear h
 have H':=Q1.mk H
 clear H
 go_enter Try.func92,Try.ntmps92
 go_wp2
 go_loopg [8,9,10] k (fun kq v8 v9 v10 w' => ∃ (GJ:Int) (GK:Int) (JD:Int),v8 = .int .i64 GJ∧v9 = .int .i64 GK∧v10 = .int .i64 JD∧Q1 (Qq.l0 kq l0 l1 l2 GJ GK JD=some (r1,r2))∧Q1 (kq≤k)∧QS w w')
 case atStart=>exact ⟨(0),(0),(0),(by first|rfl|(simp;done)|(simp [*];done)),(by first|rfl|(simp;done)|(simp [*];done)),(by first|rfl|(simp;done)|(simp [*];done)),H',⟨Nat.le_refl _⟩,by repeat (first|exact QS.refl _|apply QS.step)⟩
 case round =>
  clear H'
  try clear c1
  try clear c2
  try clear p2
  obtain ⟨GJ,GK,JD,rfl,rfl,rfl,HA,HK1,⟨m1,rfl⟩⟩:=hrel
  cases gk with
  | zero=>exact absurd HA.out (by simp [Qq.l0])
  | succ k1 =>
   have H:=HA.out
   clear HA
   simp only [Qq.l0] at H
   by_cases c4:JD<(l0.length:Int)
   ·
    rw [if_pos c4] at H;have c4b0:decide (JD<(l0.length:Int))=true:=decide_eq_true c4;clear c4;have H':=Q1.mk H;clear H
    go_wp2
    go_loopg [11,12] k1 (fun kq v11 v12 w' => ∃ (ZG:Bool) (JO:Int),v11 = .bool ZG∧v12 = .int .i64 JO∧Q1 (Qq.l1 kq l0 l1 l2 GJ GK JD ZG JO=some (r1,r2))∧Q1 (kq≤k1)∧QS w w')
    case atStart=>exact ⟨(false),(0),(by first|rfl|(simp;done)|(simp [*];done)),(by first|rfl|(simp;done)|(simp [*];done)),H',⟨Nat.le_refl _⟩,by repeat (first|exact QS.refl _|apply QS.step)⟩
    case round =>
     clear H';(try clear c1);(try clear c2);(try clear p2);(try clear c4);(try clear c4b0);(try clear p2);obtain ⟨ZG,JO,rfl,rfl,HA,HK2,⟨m2,rfl⟩⟩:=hrel
     cases gk with
     | zero=>exact absurd HA.out (by simp [Qq.l1])
     | succ k2 =>
      have H:=HA.out;clear HA;simp only [Qq.l1] at H
      by_cases c5:JO<(l2.length:Int)
      ·
       rw [if_pos c5] at H;have c5b0:decide (JO<(l2.length:Int))=true:=decide_eq_true c5;clear c5
       by_cases c6:ZG=true
       ·
        subst c6
        have H1:(Qq.l1 k2 l0 l1 l2 GJ GK JD true (wrap64 (JO+1)))=some (r1,r2):=by rw [if_pos rfl] at H;exact H
        clear H;have H:=H1;clear H1;have H':=Q1.mk H;clear H
        go_wp2
        go_roundg k2
        case measure=>have:=HK1.out;have:=HK2.out;omega
        case rel=>exact ⟨(true),(wrap64 (JO+1)),(by first|rfl|(simp;done)|(simp [*];done)),(by first|rfl|(simp;done)|(simp [*];done)),H',⟨by have:=HK1.out;have:=HK2.out;omega⟩,by repeat (first|exact QS.refl _|apply QS.step)⟩
       replace c6:=Bool.eq_false_iff.mpr c6;subst c6
       have H1:(if 0≤JO then (if 0≤(rd l2 JO) then (if (rd l2 JO)<(l1.length:Int) then ((Yo.f k2 (Y5 l1 (rd l2 JO)) JD).bind fun qd2=>(Qq.l1 k2 l0 l1 l2 GJ GK JD (decide (qd2≥0)) (wrap64 (JO+1)))) else (none)) else (none)) else (none))=some (r1,r2):=by rw [if_neg (show ¬ (false=true) by decide)] at H;exact H
       clear H;have H:=H1;clear H1
       by_cases c7:0≤JO
       ·
        rw [if_pos c7] at H;have c7b0:decide (0≤JO)=true:=decide_eq_true c7;clear c7
        by_cases c8:0≤(rd l2 JO)
        ·
         rw [if_pos c8] at H;have c8b0:decide (0≤(rd l2 JO))=true:=decide_eq_true c8;clear c8
         by_cases c9:(rd l2 JO)<(l1.length:Int)
         ·
          rw [if_pos c9] at H;have c9b0:decide ((rd l2 JO)<(l1.length:Int))=true:=decide_eq_true c9;clear c9;replace H:=Option.bind_eq_some_iff.mp H;obtain ⟨qd2,qel,H⟩:=H;replace H:(Qq.l1 k2 l0 l1 l2 GJ GK JD (decide (qd2≥0)) (wrap64 (JO+1)))=some (r1,r2):=H;have A10:=Q1.mk qel;clear qel;have H':=Q1.mk H;clear H;have qo4:0≤(JO:Int):=of_decide_eq_true (by first|(with_reducible assumption)|assumption);have qpe:JO<(l2.length:Int):=of_decide_eq_true (by first|(with_reducible assumption)|assumption);obtain ⟨qAv,qy1,qx6⟩:=Kd.at_int HR2.out JO qo4 qpe;cases qy1;replace qo4:=eq_true qo4;replace qpe:=eq_true qpe;have qo5:0≤((rd l2 JO):Int):=of_decide_eq_true (by first|(with_reducible assumption)|assumption);have qpf:(rd l2 JO)<(l1.length:Int):=of_decide_eq_true (by first|(with_reducible assumption)|assumption);obtain ⟨qAw,qyh,qyE,qy2,qx7,qhS,qhH⟩:=qcI HR1.out (rd l2 JO) qo5 qpf;cases qy2;have qkS:=Q1.mk qhH;have qkO:=Q1.mk qhS;clear qhH qhS;replace qo5:=eq_true qo5;replace qpf:=eq_true qpf
          go_wp2_with (first|(go_at_call 112;(with_reducible refine (Yo.calls k2 _ _ (Y5 l1 (rd l2 JO)) JD qd2 _ ?side1 ?side2 A10.out).mono ?_);(case side1=>repeat (first|exact qkS.out|(with_reducible refine Kd.C_alloc ?_ _)|(with_reducible refine Kd.C_drewN ?_ _)|(with_reducible refine Kd.C_drew ?_)));(case side2=>exact qkO.out);rintro e w' ⟨rfl,⟨nd,rfl⟩⟩))
          go_roundg k2
          case measure=>have:=HK1.out;have:=HK2.out;omega
          case rel=>exact ⟨(decide (qd2≥0)),(wrap64 (JO+1)),(by first|rfl|(simp;done)|(simp [*];done)),(by first|rfl|(simp;done)|(simp [*];done)),H',⟨by have:=HK1.out;have:=HK2.out;omega⟩,by repeat (first|exact QS.refl _|apply QS.step)⟩
         rw [if_neg c9] at H
         exact absurd H (by simp)
        rw [if_neg c8] at H
        exact absurd H (by simp)
       rw [if_neg c7] at H
       exact absurd H (by simp)
      rw [if_neg c5] at H;have c5b0:decide (JO<(l2.length:Int))=false:=decide_eq_false c5;clear c5
      by_cases c11:ZG=true
      ·
       subst c11
       have H1:(if 0≤JD then (if JD<(l0.length:Int) then (Qq.l0 k2 l0 l1 l2 (wrap64 (GJ+((Zh l0 JD).f0))) (wrap64 (GK+((Zh l0 JD).f1))) (wrap64 (JD+1))) else (none)) else (none))=some (r1,r2):=by rw [if_pos rfl] at H;exact H
       clear H;have H:=H1;clear H1
       by_cases c12:0≤JD
       ·
        rw [if_pos c12] at H;have c12b0:decide (0≤JD)=true:=decide_eq_true c12;clear c12
        by_cases c13:JD<(l0.length:Int)
        ·
         rw [if_pos c13] at H;have c13b0:decide (JD<(l0.length:Int))=true:=decide_eq_true c13;clear c13;have H':=Q1.mk H;clear H;have qo6:0≤(JD:Int):=of_decide_eq_true (by first|(with_reducible assumption)|assumption);have qpg:JD<(l0.length:Int):=of_decide_eq_true (by first|(with_reducible assumption)|assumption);obtain ⟨qqd,qy3,qx8,qx9⟩:=UF HR0.out JD qo6 qpg;cases qy3;replace qo6:=eq_true qo6;replace qpg:=eq_true qpg;have qo7:0≤(JD:Int):=of_decide_eq_true (by first|(with_reducible assumption)|assumption);have qph:JD<(l0.length:Int):=of_decide_eq_true (by first|(with_reducible assumption)|assumption);obtain ⟨qqe,qy4,qya,qyb⟩:=UF HR0.out JD qo7 qph;obtain rfl:qqd=qqe:=(by injection qy4);replace qo7:=eq_true qo7;replace qph:=eq_true qph
         go_wp2
         go_roundg k2
         case measure=>have:=HK1.out;have:=HK2.out;omega
         case rel=>exact ⟨(wrap64 (GJ+((Zh l0 JD).f0))),(wrap64 (GK+((Zh l0 JD).f1))),(wrap64 (JD+1)),(by first|rfl|(simp;done)|(simp [*];done)),(by first|rfl|(simp;done)|(simp [*];done)),(by first|rfl|(simp;done)|(simp [*];done)),H',⟨by have:=HK1.out;have:=HK2.out;omega⟩,by repeat (first|exact QS.refl _|apply QS.step)⟩
        rw [if_neg c13] at H
        exact absurd H (by simp)
       rw [if_neg c12] at H
       exact absurd H (by simp)
      replace c11:=Bool.eq_false_iff.mpr c11;subst c11
      have H1:(Qq.l0 k2 l0 l1 l2 GJ GK (wrap64 (JD+1)))=some (r1,r2):=by rw [if_neg (show ¬ (false=true) by decide)] at H;exact H
      clear H;have H:=H1;clear H1;have H':=Q1.mk H;clear H
      go_wp2
      go_roundg k2
      case measure=>have:=HK1.out;have:=HK2.out;omega
      case rel=>exact ⟨(GJ),(GK),(wrap64 (JD+1)),(by first|rfl|(simp;done)|(simp [*];done)),(by first|rfl|(simp;done)|(simp [*];done)),(by first|rfl|(simp;done)|(simp [*];done)),H',⟨by have:=HK1.out;have:=HK2.out;omega⟩,by repeat (first|exact QS.refl _|apply QS.step)⟩
   rw [if_neg c4] at H
   have c4b0:decide (JD<(l0.length:Int))=false:=decide_eq_false c4
   clear c4
   simp only [Option.some.injEq,Prod.mk.injEq] at H
   obtain ⟨rfl,rfl⟩:=H
   go_wp2
   go_ret2
   exact ⟨by first|rfl|(simp;done)|(simp [*];done),by repeat (first|exact QS.refl _|apply QS.step)⟩
end
section
attribute [local go_sem] Yr Yt YM YN Yi Yj Ys Yu
mutual
def Qa.j0:Nat→List (Z7)→List (List Int)→Int→Bool→Option (List Int × Int × Int × Int)
 | 0,_,_,_,_=>none
 | k+1,x0,x1,x2,x10=>Qa.l0 k x0 x1 x2 x10 0
def Qa.l0:Nat→List (Z7)→List (List Int)→Int→Bool→Int→Option (List Int × Int × Int × Int)
 | 0,_,_,_,_,_=>none
 | k+1,x0,x1,x2,x10,x11=>if x10=true then (Qa.j2 k x0 x1 x2 x10 x11 (decide (x11<(x0.length:Int)))) else (Qa.j2 k x0 x1 x2 x10 x11 false)
def Qa.j2:Nat→List (Z7)→List (List Int)→Int→Bool→Int→Bool→Option (List Int × Int × Int × Int)
 | 0,_,_,_,_,_,_=>none
 | k+1,x0,x1,x2,x10,x11,x34=>if x34=true then (if 0≤x11 then (if x11<(x0.length:Int) then ((Ya.f ((Zh x0 x11).f0) 0 10000).bind fun qiU=>(if qiU=true then ((Ya.f ((Zh x0 x11).f1) 0 10000).bind fun qcc=>(Qa.l0 k x0 x1 x2 qcc (wrap64 (x11+1)))) else (Qa.l0 k x0 x1 x2 false (wrap64 (x11+1))))) else (none)) else (none)) else (Qa.l1 k x0 x1 x2 x10 0)
def Qa.j4:Nat→List (Z7)→List (List Int)→Int→Bool→Option (List Int × Int × Int × Int)
 | 0,_,_,_,_=>none
 | k+1,x0,x1,x2,x10=>if x10=true then ((Ya.f x2 0 8).bind fun qiV=>(if qiV=true then (Qa.l2 k x0 x1 x2 ([]:List Int) 0 0 1) else (some (([]:List Int),0,0,7)))) else (some (([]:List Int),0,0,94))
def Qa.l2:Nat→List (Z7)→List (List Int)→Int→List Int→Int→Int→Int→Option (List Int × Int × Int × Int)
 | 0,_,_,_,_,_,_,_=>none
 | k+1,x0,x1,x2,x13,x14,x15,x16=>if x16<(shl .i64 1 (x1.length:Int)) then ((Qx.f k x16 (x1.length:Int)).bind fun Z9=>(if (Z9.length:Int)>x2 then (Qa.l2 k x0 x1 x2 x13 x14 x15 (wrap64 (x16+1))) else ((Qq.f k x0 x1 Z9).bind fun Zx=>(if Zx.1>x14 then (Qa.l2 k x0 x1 x2 Z9 Zx.1 Zx.2 (wrap64 (x16+1))) else (if Zx.1=x14 then (if Zx.2<x15 then (Qa.l2 k x0 x1 x2 Z9 Zx.1 Zx.2 (wrap64 (x16+1))) else (if Zx.2=x15 then (if (Z9.length:Int)<(x13.length:Int) then (Qa.l2 k x0 x1 x2 Z9 Zx.1 Zx.2 (wrap64 (x16+1))) else (if (Z9.length:Int)=(x13.length:Int) then ((Qu.f k Z9 x13).bind fun qag=>(if qag=true then (Qa.l2 k x0 x1 x2 Z9 Zx.1 Zx.2 (wrap64 (x16+1))) else (Qa.l2 k x0 x1 x2 x13 x14 x15 (wrap64 (x16+1))))) else (Qa.l2 k x0 x1 x2 x13 x14 x15 (wrap64 (x16+1))))) else (Qa.l2 k x0 x1 x2 x13 x14 x15 (wrap64 (x16+1))))) else (Qa.l2 k x0 x1 x2 x13 x14 x15 (wrap64 (x16+1)))))))) else (some (x13,x14,x15,0))
def Qa.l1:Nat→List (Z7)→List (List Int)→Int→Bool→Int→Option (List Int × Int × Int × Int)
 | 0,_,_,_,_,_=>none
 | k+1,x0,x1,x2,x10,x12=>if x10=true then (if x12<(x1.length:Int) then (if 0≤x12 then ((QB.f k (Y5 x1 x12) (x0.length:Int)).bind fun qd3=>(Qa.l1 k x0 x1 x2 qd3 (wrap64 (x12+1)))) else (none)) else (Qa.j4 k x0 x1 x2 x10)) else (Qa.j4 k x0 x1 x2 x10)
end
def Qa.f (k:Nat) (l0:List (Z7)) (l1:List (List Int)) (a2:Int):Option (List Int × Int × Int × Int):=if (l0.length:Int)≤12 then (Qa.j0 k l0 l1 a2 (decide ((l1.length:Int)≤8))) else (Qa.j0 k l0 l1 a2 false)
set_option maxHeartbeats 8000000 in
set_option maxRecDepth 100000 in
theorem Qa.calls (k:Nat) (A0:Option Addr) (c0:Nat) (l0:List (Z7)) (A1:Option Addr) (c1:Nat) (l1:List (List Int)) (a2:Int) (r1:List Int) (r2:Int) (r3:Int) (r4:Int) (w:World) (hr0:Kd.C UA w A0 l0.length l0) (hc0:l0.length≤c0) (hr1:Kd.C (Kd.slice 3 (Kd.int .i64)) w A1 l1.length l1) (hc1:l1.length≤c1) (h:Qa.f k l0 l1 a2=some (r1,r2,r3,r4)) :
  Calls Try.prog 41 #[.slice A0 l0.length c0,.slice A1 l1.length c1,.int .i64 a2] w fun e w' => ∃ v0_:Value,e = .returned (.tuple #[v0_,.int .i64 r2,.int .i64 r3,.int .i64 r4])∧Kd.R (Kd.int .i64) 3 w' w.heap.size (fun _=>True) v0_ r1∧Below w.heap.size w w':=by
 have HR0:=Q1.mk hr0
 have HC0:=Q1.mk hc0
 clear hr0 hc0
 have HR1:=Q1.mk hr1
 have HC1:=Q1.mk hc1
 clear hr1 hc1
 have HB:=Q1.mk (Below.refl w.heap.size w)
 have H:(if (l0.length:Int)≤12 then (Qa.j0 k l0 l1 a2 (decide ((l1.length:Int)≤8))) else (Qa.j0 k l0 l1 a2 false))=some (r1,r2,r3,r4):=h
 clear h
 have HC4:=Q1.mk H
 clear H
 go_enter Try.func41,Try.ntmps41
 go_upto_region 1 with (fail)
 go_cut [10] (fun v10 wc => ∃ (kq:Nat) (qh2:Bool),v10 = .bool qh2∧Q1 (Qa.j0 kq l0 l1 a2 qh2=some (r1,r2,r3,r4))∧Q1 (kq≤k)∧Q1 (Below w.heap.size w wc))
 case first =>
  have H:=HC4.out
  clear HC4
  by_cases c5:(l0.length:Int)≤12
  ·
   rw [if_pos c5] at H
   have c5b0:decide ((l0.length:Int)≤12)=true:=decide_eq_true c5
   have c5b1:decide (l0.length≤12)=true:=decide_eq_true (by omega)
   clear c5
   (first|rw [c5b0]|(simp only [Yn,YA];rw [c5b0])|skip)
   have H':=Q1.mk H
   clear H
   go_wp2
   go_meet
   case rel=>exact ⟨_,(decide ((l1.length:Int)≤8)),(by first|rfl|(simp;done)|(simp [*];done)),H',⟨by first|omega|exact Nat.le_refl _⟩,⟨by repeat (first|(with_reducible first|exact HB.out|apply Q2|apply Q0|apply Q5)|exact HB.out)⟩⟩
  rw [if_neg c5] at H
  have c5b0:decide ((l0.length:Int)≤12)=false:=decide_eq_false c5
  have c5b1:decide (l0.length≤12)=false:=decide_eq_false (by omega)
  clear c5
  (first|rw [c5b0]|(simp only [Yn,YA];rw [c5b0])|skip)
  have H':=Q1.mk H
  clear H
  go_wp2
  go_meet
  case rel=>exact ⟨_,(false),(by first|rfl|(simp;done)|(simp [*];done)),H',⟨by first|omega|exact Nat.le_refl _⟩,⟨by repeat (first|(with_reducible first|exact HB.out|apply Q2|apply Q0|apply Q5)|exact HB.out)⟩⟩
 case rest =>
  clear HC4
  try clear c1
  try clear p2
  try clear c4
  try clear c5
  try clear c5b0
  try clear c5b1
  obtain ⟨kq,qh2,rfl,HA,HJ3,HB⟩:=hcut
  cases kq with
  | zero=>exact absurd HA.out (by simp [Qa.j0])
  | succ kj3 =>
   have H:=HA.out
   clear HA
   simp only [Qa.j0] at H
   have H':=Q1.mk H
   clear H
   go_wp2
   go_loopg [10,11] kj3 (fun kq v10 v11 w' => ∃ (Zt:Bool) (ZG:Int),v10 = .bool Zt∧v11 = .int .i64 ZG∧Q1 (Qa.l0 kq l0 l1 a2 Zt ZG=some (r1,r2,r3,r4))∧Q1 (kq≤kj3)∧Q1 (Below w.heap.size w w'))
   case atStart=>exact ⟨(qh2),(0),(by first|rfl|(simp;done)|(simp [*];done)),(by first|rfl|(simp;done)|(simp [*];done)),H',⟨Nat.le_refl _⟩,⟨by repeat (first|(with_reducible first|exact HB.out|apply Q2|apply Q0|apply Q5)|exact HB.out)⟩⟩
   case round =>
    clear H';(try clear c1);(try clear p2);(try clear c4);(try clear c5);(try clear c5b0);(try clear c5b1);(try clear p2);obtain ⟨Zt,ZG,rfl,rfl,HA,HK2,HB⟩:=hrel
    cases gk with
    | zero=>exact absurd HA.out (by simp [Qa.l0])
    | succ k2 =>
     have H:=HA.out;clear HA;simp only [Qa.l0] at H;have HC6:=Q1.mk H;clear H
     go_upto_region 3 with (fail)
     go_cut [34] (fun v34 wc => ∃ (kq:Nat) (qid:Bool),v34 = .bool qid∧Q1 (Qa.j2 kq l0 l1 a2 Zt ZG qid=some (r1,r2,r3,r4))∧Q1 (kq≤k2)∧Q1 (Below w.heap.size w wc))
     case first =>
      have H:=HC6.out;clear HC6
      by_cases c7:Zt=true
      ·
       subst c7
       have H1:(Qa.j2 k2 l0 l1 a2 true ZG (decide (ZG<(l0.length:Int))))=some (r1,r2,r3,r4):=by rw [if_pos rfl] at H;exact H
       clear H;have H:=H1;clear H1;have H':=Q1.mk H;clear H
       go_wp2
       go_meet
       case rel=>exact ⟨_,(decide (ZG<(l0.length:Int))),(by first|rfl|(simp;done)|(simp [*];done)),H',⟨by have:=HJ3.out;have:=HK2.out;first|omega|exact Nat.le_refl _⟩,⟨by repeat (first|(with_reducible first|exact HB.out|apply Q2|apply Q0|apply Q5)|exact HB.out)⟩⟩
      replace c7:=Bool.eq_false_iff.mpr c7;subst c7
      have H1:(Qa.j2 k2 l0 l1 a2 false ZG false)=some (r1,r2,r3,r4):=by rw [if_neg (show ¬ (false=true) by decide)] at H;exact H
      clear H;have H:=H1;clear H1;have H':=Q1.mk H;clear H
      go_wp2
      go_meet
      case rel=>exact ⟨_,(false),(by first|rfl|(simp;done)|(simp [*];done)),H',⟨by have:=HJ3.out;have:=HK2.out;first|omega|exact Nat.le_refl _⟩,⟨by repeat (first|(with_reducible first|exact HB.out|apply Q2|apply Q0|apply Q5)|exact HB.out)⟩⟩
     case rest =>
      clear HC6;(try clear c1);(try clear p2);(try clear c4);(try clear c5);(try clear c5b0);(try clear c5b1);(try clear c7);(try clear p2);obtain ⟨kq,qid,rfl,HA,HJ5,HB⟩:=hcut
      cases kq with
      | zero=>exact absurd HA.out (by simp [Qa.j2])
      | succ kj5 =>
       have H:=HA.out;clear HA;simp only [Qa.j2] at H
       by_cases c8:qid=true
       ·
        subst c8
        have H1:(if 0≤ZG then (if ZG<(l0.length:Int) then ((Ya.f ((Zh l0 ZG).f0) 0 10000).bind fun qiU=>(if qiU=true then ((Ya.f ((Zh l0 ZG).f1) 0 10000).bind fun qcc=>(Qa.l0 kj5 l0 l1 a2 qcc (wrap64 (ZG+1)))) else (Qa.l0 kj5 l0 l1 a2 false (wrap64 (ZG+1))))) else (none)) else (none))=some (r1,r2,r3,r4):=by rw [if_pos rfl] at H;exact H
        clear H;have H:=H1;clear H1
        by_cases c9:0≤ZG
        ·
         rw [if_pos c9] at H;have c9b0:decide (0≤ZG)=true:=decide_eq_true c9;clear c9
         by_cases c10:ZG<(l0.length:Int)
         ·
          rw [if_pos c10] at H;have c10b0:decide (ZG<(l0.length:Int))=true:=decide_eq_true c10;clear c10;replace H:=Option.bind_eq_some_iff.mp H;obtain ⟨qiU,qbI,H⟩:=H;replace H:(if qiU=true then ((Ya.f ((Zh l0 ZG).f1) 0 10000).bind fun qcc=>(Qa.l0 kj5 l0 l1 a2 qcc (wrap64 (ZG+1)))) else (Qa.l0 kj5 l0 l1 a2 false (wrap64 (ZG+1))))=some (r1,r2,r3,r4):=H;have A11:=Q1.mk qbI;clear qbI
          by_cases c12:qiU=true
          ·
           subst c12
           have H1:((Ya.f ((Zh l0 ZG).f1) 0 10000).bind fun qcc=>(Qa.l0 kj5 l0 l1 a2 qcc (wrap64 (ZG+1))))=some (r1,r2,r3,r4):=by rw [if_pos rfl] at H;exact H
           clear H;have H:=H1;clear H1;replace H:=Option.bind_eq_some_iff.mp H;obtain ⟨qcc,qpn,H⟩:=H;replace H:(Qa.l0 kj5 l0 l1 a2 qcc (wrap64 (ZG+1)))=some (r1,r2,r3,r4):=H;have A13:=Q1.mk qpn;clear qpn;have H':=Q1.mk H;clear H;have qcp:0≤(ZG:Int):=of_decide_eq_true (by first|(with_reducible assumption)|assumption);have qcr:ZG<(l0.length:Int):=of_decide_eq_true (by first|(with_reducible assumption)|assumption);obtain ⟨qnN,qox,KW,KX⟩:=UF HR0.out ZG qcp qcr;cases qox;replace KW:=(HB.out.cell (World.block_lt_of_cell? w _ KW)).trans KW;replace KX:=(HB.out.cell (World.block_lt_of_cell? w _ KX)).trans KX;replace qcp:=eq_true qcp;replace qcr:=eq_true qcr
           go_wp2_with (first|((with_reducible refine Qp (f:=34) rfl ?_);refine Yd (some 42) rfl rfl Try.func34 (by kernel_rfl) rfl #[.int .i64 ((Zh l0 ZG).f0),.int .i64 0,.int .i64 10000] rfl (by (try simp only [List.map_toArray,List.map_cons,List.map_nil]);first|done|rfl|(simp only [List.length_drop,List.length_take];rfl)) ?_;(with_reducible refine (Ya.calls ((Zh l0 ZG).f0) 0 10000 true _ A11.out).mono ?_);rintro e w' ⟨rfl,⟨nd,rfl⟩⟩;refine ⟨_,rfl,?_⟩;have qiG:0≤(ZG:Int):=of_decide_eq_true (by first|(with_reducible assumption)|assumption);have qiH:ZG<(l0.length:Int):=of_decide_eq_true (by first|(with_reducible assumption)|assumption);obtain ⟨qqf,qy5,Wx,Wy⟩:=UF HR0.out ZG qiG qiH;obtain rfl:qnN=qqf:=(by injection qy5);replace Wx:=(HB.out.cell (World.block_lt_of_cell? w _ Wx)).trans Wx;replace Wy:=(HB.out.cell (World.block_lt_of_cell? w _ Wy)).trans Wy;replace qiG:=eq_true qiG;replace qiH:=eq_true qiH)|(go_at_call 34;(with_reducible refine (Ya.calls ((Zh l0 ZG).f1) 0 10000 qcc _ A13.out).mono ?_);rintro e w' ⟨rfl,⟨nd,rfl⟩⟩))
           go_roundg kj5
           case measure=>have:=HJ3.out;have:=HK2.out;have:=HJ5.out;omega
           case rel=>exact ⟨(qcc),(wrap64 (ZG+1)),(by first|rfl|(simp;done)|(simp [*];done)),(by first|rfl|(simp;done)|(simp [*];done)),H',⟨by have:=HJ3.out;have:=HK2.out;have:=HJ5.out;omega⟩,⟨by repeat (first|(with_reducible first|exact HB.out|apply Q2|apply Q0|apply Q5)|exact HB.out)⟩⟩
          replace c12:=Bool.eq_false_iff.mpr c12;subst c12
          have H1:(Qa.l0 kj5 l0 l1 a2 false (wrap64 (ZG+1)))=some (r1,r2,r3,r4):=by rw [if_neg (show ¬ (false=true) by decide)] at H;exact H
          clear H;have H:=H1;clear H1;have H':=Q1.mk H;clear H;have qcp:0≤(ZG:Int):=of_decide_eq_true (by first|(with_reducible assumption)|assumption);have qcr:ZG<(l0.length:Int):=of_decide_eq_true (by first|(with_reducible assumption)|assumption);obtain ⟨qnN,qox,KW,KX⟩:=UF HR0.out ZG qcp qcr;cases qox;replace KW:=(HB.out.cell (World.block_lt_of_cell? w _ KW)).trans KW;replace KX:=(HB.out.cell (World.block_lt_of_cell? w _ KX)).trans KX;replace qcp:=eq_true qcp;replace qcr:=eq_true qcr
          go_wp2_with (first|((with_reducible refine Qp (f:=34) rfl ?_);refine Yd (some 42) rfl rfl Try.func34 (by kernel_rfl) rfl #[.int .i64 ((Zh l0 ZG).f0),.int .i64 0,.int .i64 10000] rfl (by (try simp only [List.map_toArray,List.map_cons,List.map_nil]);first|done|rfl|(simp only [List.length_drop,List.length_take];rfl)) ?_;(with_reducible refine (Ya.calls ((Zh l0 ZG).f0) 0 10000 false _ A11.out).mono ?_);rintro e w' ⟨rfl,⟨nd,rfl⟩⟩;refine ⟨_,rfl,?_⟩))
          go_roundg kj5
          case measure=>have:=HJ3.out;have:=HK2.out;have:=HJ5.out;omega
          case rel=>exact ⟨(false),(wrap64 (ZG+1)),(by first|rfl|(simp;done)|(simp [*];done)),(by first|rfl|(simp;done)|(simp [*];done)),H',⟨by have:=HJ3.out;have:=HK2.out;have:=HJ5.out;omega⟩,⟨by repeat (first|(with_reducible first|exact HB.out|apply Q2|apply Q0|apply Q5)|exact HB.out)⟩⟩
         rw [if_neg c10] at H
         exact absurd H (by simp)
        rw [if_neg c9] at H
        exact absurd H (by simp)
       replace c8:=Bool.eq_false_iff.mpr c8;subst c8
       have H1:(Qa.l1 kj5 l0 l1 a2 Zt 0)=some (r1,r2,r3,r4):=by rw [if_neg (show ¬ (false=true) by decide)] at H;exact H
       clear H;have H:=H1;clear H1;have qoa:=Q1.mk H;clear H
       go_upto_block 2 with (fail)
       go_cut [10] (fun v10 wc => ∃ (kq:Nat) (qd4:Bool),v10 = .bool qd4∧Q1 (Qa.j4 kq l0 l1 a2 qd4=some (r1,r2,r3,r4))∧Q1 (kq≤kj5)∧Q1 (Below w.heap.size w wc))
       case first =>
        have H:=qoa.out;clear qoa;have H':=Q1.mk H;clear H
        go_wp2
        go_loopg [10,12] kj5 (fun kq v10 v12 w' => ∃ (qh3:Bool) (KB:Int),v10 = .bool qh3∧v12 = .int .i64 KB∧Q1 (Qa.l1 kq l0 l1 a2 qh3 KB=some (r1,r2,r3,r4))∧Q1 (kq≤kj5)∧Q1 (Below w.heap.size w w'))
        case atStart=>exact ⟨(Zt),(0),(by first|rfl|(simp;done)|(simp [*];done)),(by first|rfl|(simp;done)|(simp [*];done)),H',⟨Nat.le_refl _⟩,⟨by repeat (first|(with_reducible first|exact HB.out|apply Q2|apply Q0|apply Q5)|exact HB.out)⟩⟩
        case round =>
         clear H';(try clear c1);(try clear p2);(try clear c3);(try clear c4);(try clear c5);(try clear c5b0);(try clear c5b1);(try clear p6);(try clear q6);(try clear hx6);(try clear c7);(try clear c8);(try clear c9);(try clear c9b0);(try clear c10);(try clear c10b0);(try clear c12);(try clear KW);(try clear KX);(try clear Wx);(try clear Wy);(try clear p2);(try clear qcp);(try clear qiG);(try clear qcr);(try clear qiH);obtain ⟨qh3,KB,rfl,rfl,HA,HK4,HB⟩:=hrel
         cases gk with
         | zero=>exact absurd HA.out (by simp [Qa.l1])
         | succ k4 =>
          have H:=HA.out;clear HA;simp only [Qa.l1] at H
          by_cases c15:qh3=true
          ·
           subst c15
           have H1:(if KB<(l1.length:Int) then (if 0≤KB then ((QB.f k4 (Y5 l1 KB) (l0.length:Int)).bind fun qd3=>(Qa.l1 k4 l0 l1 a2 qd3 (wrap64 (KB+1)))) else (none)) else (Qa.j4 k4 l0 l1 a2 true))=some (r1,r2,r3,r4):=by rw [if_pos rfl] at H;exact H
           clear H;have H:=H1;clear H1
           by_cases c16:KB<(l1.length:Int)
           ·
            rw [if_pos c16] at H;have c16b0:decide (KB<(l1.length:Int))=true:=decide_eq_true c16;clear c16
            (first|rw [c16b0]|(simp only [Yn,YA];rw [c16b0])|skip)
            by_cases c17:0≤KB
            ·
             rw [if_pos c17] at H;have c17b0:decide (0≤KB)=true:=decide_eq_true c17;clear c17;replace H:=Option.bind_eq_some_iff.mp H;obtain ⟨qd3,qi4,H⟩:=H;replace H:(Qa.l1 k4 l0 l1 a2 qd3 (wrap64 (KB+1)))=some (r1,r2,r3,r4):=H;have A18:=Q1.mk qi4;clear qi4;have H':=Q1.mk H;clear H;have qki:0≤(KB:Int):=of_decide_eq_true (by first|(with_reducible assumption)|assumption);have qkn:KB<(l1.length:Int):=of_decide_eq_true (by first|(with_reducible assumption)|assumption);obtain ⟨qAx,qn4,qoi,qy6,XT,qhT,qhI⟩:=qcI HR1.out KB qki qkn;cases qy6;replace XT:=(HB.out.cell (World.block_lt_of_cell? w _ XT)).trans XT;have qkT:=Q1.mk qhI;have qkP:=Q1.mk qhT;clear qhI qhT;replace qki:=eq_true qki;replace qkn:=eq_true qkn
             go_wp2_with (first|((with_reducible refine Qp (f:=53) rfl ?_);refine Yd (some 66) rfl rfl Try.func53 (by kernel_rfl) rfl #[.slice qn4 (Y5 l1 KB).length qoi,.int .i64 (l0.length:Int)] rfl (by (try simp only [List.map_toArray,List.map_cons,List.map_nil]);first|done|rfl|(simp only [List.length_drop,List.length_take];rfl)) ?_;(with_reducible refine (QB.calls k4 _ _ (Y5 l1 KB) (l0.length:Int) qd3 _ ?side1 ?side2 A18.out).mono ?_);(case side1=>repeat (first|exact (Kd.C_below qkT.out HB.out)|(with_reducible refine Kd.C_alloc ?_ _)|(with_reducible refine Kd.C_drewN ?_ _)|(with_reducible refine Kd.C_drew ?_)));(case side2=>exact qkP.out);rintro e w' ⟨rfl,⟨nd,rfl⟩⟩;refine ⟨_,rfl,?_⟩))
             go_roundg k4
             case measure=>have:=HJ3.out;have:=HK2.out;have:=HJ5.out;have:=HK4.out;omega
             case rel=>exact ⟨(qd3),(wrap64 (KB+1)),(by first|rfl|(simp;done)|(simp [*];done)),(by first|rfl|(simp;done)|(simp [*];done)),H',⟨by have:=HJ3.out;have:=HK2.out;have:=HJ5.out;have:=HK4.out;omega⟩,⟨by repeat (first|(with_reducible first|exact HB.out|apply Q2|apply Q0|apply Q5)|exact HB.out)⟩⟩
            rw [if_neg c17] at H
            exact absurd H (by simp)
           rw [if_neg c16] at H;have c16b0:decide (KB<(l1.length:Int))=false:=decide_eq_false c16;clear c16
           (first|rw [c16b0]|(simp only [Yn,YA];rw [c16b0])|skip)
           have H':=Q1.mk H;clear H
           go_wp2
           go_meet
           case rel=>exact ⟨_,(true),(by first|rfl|(simp;done)|(simp [*];done)),H',⟨by have:=HJ3.out;have:=HK2.out;have:=HJ5.out;have:=HK4.out;first|omega|exact Nat.le_refl _⟩,⟨by repeat (first|(with_reducible first|exact HB.out|apply Q2|apply Q0|apply Q5)|exact HB.out)⟩⟩
          replace c15:=Bool.eq_false_iff.mpr c15;subst c15
          have H1:(Qa.j4 k4 l0 l1 a2 false)=some (r1,r2,r3,r4):=by rw [if_neg (show ¬ (false=true) by decide)] at H;exact H
          clear H;have H:=H1;clear H1;have H':=Q1.mk H;clear H
          go_wp2
          go_meet
          case rel=>exact ⟨_,(false),(by first|rfl|(simp;done)|(simp [*];done)),H',⟨by have:=HJ3.out;have:=HK2.out;have:=HJ5.out;have:=HK4.out;first|omega|exact Nat.le_refl _⟩,⟨by repeat (first|(with_reducible first|exact HB.out|apply Q2|apply Q0|apply Q5)|exact HB.out)⟩⟩
       case rest =>
        clear qoa;(try clear c1);(try clear p2);(try clear c3);(try clear c4);(try clear c5);(try clear c5b0);(try clear c5b1);(try clear c6);(try clear p6);(try clear q6);(try clear hx6);(try clear c7);(try clear c8);(try clear c9);(try clear c9b0);(try clear c10);(try clear c10b0);(try clear c12);(try clear c15);(try clear c16);(try clear c16b0);(try clear c17);(try clear c17b0);(try clear KW);(try clear KX);(try clear Wx);(try clear Wy);(try clear XT);(try clear p2);(try clear p6);(try clear qcp);(try clear qiG);(try clear qki);(try clear q6);(try clear qcr);(try clear qiH);(try clear qkn);obtain ⟨kq,qd4,rfl,HA,UZ,HB⟩:=hcut
        cases kq with
        | zero=>exact absurd HA.out (by simp [Qa.j4])
        | succ qj9 =>
         have H:=HA.out;clear HA;simp only [Qa.j4] at H
         by_cases c19:qd4=true
         ·
          subst c19
          have H1:((Ya.f a2 0 8).bind fun qiV=>(if qiV=true then (Qa.l2 qj9 l0 l1 a2 ([]:List Int) 0 0 1) else (some (([]:List Int),0,0,7))))=some (r1,r2,r3,r4):=by rw [if_pos rfl] at H;exact H
          clear H;have H:=H1;clear H1;replace H:=Option.bind_eq_some_iff.mp H;obtain ⟨qiV,qpq,H⟩:=H;replace H:(if qiV=true then (Qa.l2 qj9 l0 l1 a2 ([]:List Int) 0 0 1) else (some (([]:List Int),0,0,7)))=some (r1,r2,r3,r4):=H;have A20:=Q1.mk qpq;clear qpq
          by_cases c21:qiV=true
          ·
           subst c21
           have H1:(Qa.l2 qj9 l0 l1 a2 ([]:List Int) 0 0 1)=some (r1,r2,r3,r4):=by rw [if_pos rfl] at H;exact H
           clear H;have H:=H1;clear H1;have H':=Q1.mk H;clear H
           go_wp2_with (first|((with_reducible refine Qp (f:=34) rfl ?_);refine Yd (some 70) rfl rfl Try.func34 (by kernel_rfl) rfl #[.int .i64 a2,.int .i64 0,.int .i64 8] rfl (by (try simp only [List.map_toArray,List.map_cons,List.map_nil]);first|done|rfl|(simp only [List.length_drop,List.length_take];rfl)) ?_;(with_reducible refine (Ya.calls a2 0 8 true _ A20.out).mono ?_);rintro e w' ⟨rfl,⟨nd,rfl⟩⟩;refine ⟨_,rfl,?_⟩))
           go_loopg [13,14,15,16] qj9 (fun kq v13 v14 v15 v16 w' => ∃ (ZE:List Int) (J3:Int) (J4:Int) (Z3:Int),v14 = .int .i64 J3∧v15 = .int .i64 J4∧v16 = .int .i64 Z3∧Q1 (Qa.l2 kq l0 l1 a2 ZE J3 J4 Z3=some (r1,r2,r3,r4))∧Q1 (kq≤qj9)∧Q1 (Kd.R (Kd.int .i64) 3 w' w.heap.size (fun _=>True) v13 ZE)∧Q1 (Below w.heap.size w w'))
           case atStart=>exact ⟨(([]:List Int)),(0),(0),(1),(by first|rfl|(simp;done)|(simp [*];done)),(by first|rfl|(simp;done)|(simp [*];done)),(by first|rfl|(simp;done)|(simp [*];done)),H',⟨Nat.le_refl _⟩,⟨by first|exact Kd.R_nil _ _ _ _ _|exact Kd.N_nil _ _ _ _ _|exact Kd.V_nil _ _ _ _ _|exact Kd.Q_nil _ _ _ _ _|exact Kd.S_nil _ _ _ _ _⟩,⟨by repeat (first|(with_reducible first|exact HB.out|apply Q2|apply Q0|apply Q5)|exact HB.out)⟩⟩
           case round =>
            clear H';(try clear c1);(try clear c2);(try clear p2);(try clear c3);(try clear c4);(try clear c5);(try clear c5b0);(try clear c5b1);(try clear c6);(try clear p6);(try clear q6);(try clear hx6);(try clear c7);(try clear c8);(try clear c9);(try clear c9b0);(try clear c10);(try clear c10b0);(try clear c12);(try clear c15);(try clear c16);(try clear c16b0);(try clear c17);(try clear c17b0);(try clear c19);(try clear c21);(try clear KW);(try clear KX);(try clear Wx);(try clear Wy);(try clear XT);(try clear p2);(try clear p6);(try clear qcp);(try clear qiG);(try clear qki);(try clear q6);(try clear qcr);(try clear qiH);(try clear qkn);obtain ⟨ZE,J3,J4,Z3,rfl,rfl,rfl,HA,HK5,HO_13,HB⟩:=hrel
            cases gk with
            | zero=>exact absurd HA.out (by simp [Qa.l2])
            | succ k5 =>
             have H:=HA.out;clear HA;simp only [Qa.l2] at H;obtain ⟨XV,qeF⟩:∃ j_:Int,(shl .i64 1 (l1.length:Int))=j_:=⟨_,rfl⟩
             replace H:(if Z3<(XV) then ((Qx.f k5 Z3 (l1.length:Int)).bind fun Z9=>(if (Z9.length:Int)>a2 then (Qa.l2 k5 l0 l1 a2 ZE J3 J4 (wrap64 (Z3+1))) else ((Qq.f k5 l0 l1 Z9).bind fun Zx=>(if Zx.1>J3 then (Qa.l2 k5 l0 l1 a2 Z9 Zx.1 Zx.2 (wrap64 (Z3+1))) else (if Zx.1=J3 then (if Zx.2<J4 then (Qa.l2 k5 l0 l1 a2 Z9 Zx.1 Zx.2 (wrap64 (Z3+1))) else (if Zx.2=J4 then (if (Z9.length:Int)<(ZE.length:Int) then (Qa.l2 k5 l0 l1 a2 Z9 Zx.1 Zx.2 (wrap64 (Z3+1))) else (if (Z9.length:Int)=(ZE.length:Int) then ((Qu.f k5 Z9 ZE).bind fun qag=>(if qag=true then (Qa.l2 k5 l0 l1 a2 Z9 Zx.1 Zx.2 (wrap64 (Z3+1))) else (Qa.l2 k5 l0 l1 a2 ZE J3 J4 (wrap64 (Z3+1))))) else (Qa.l2 k5 l0 l1 a2 ZE J3 J4 (wrap64 (Z3+1))))) else (Qa.l2 k5 l0 l1 a2 ZE J3 J4 (wrap64 (Z3+1))))) else (Qa.l2 k5 l0 l1 a2 ZE J3 J4 (wrap64 (Z3+1)))))))) else (some (ZE,J3,J4,0)))=some (r1,r2,r3,r4):=by first|(rw [qeF] at H;exact H)|(simp only [qeF] at H ⊢;exact H)
             have hji22_:(IntKind.i64.wrap (1*2 ^ min (l1.length:Int).toNat 64))=XV:=qeF;have hji22z:(l1.length:Int)≤64→(IntKind.i64.wrap (1*2 ^ (l1.length:Int).toNat))=XV:=qcP qeF;have hji22p:(IntKind.i64.wrap (1*2 ^ min l1.length 64))=XV:=hji22_;have hji22q:(l1.length:Int)≤64→(IntKind.i64.wrap (1*2 ^ l1.length))=XV:=hji22z
             have hji22r:(IntKind.i64.wrap (2 ^ min l1.length 64))=XV:=by have h_:=hji22p;rw [Int.one_mul] at h_;exact h_
             have hji22s:(l1.length:Int)≤64→(IntKind.i64.wrap (2 ^ l1.length))=XV:=fun hle_=>by have h_:=hji22q hle_;rw [Int.one_mul] at h_;exact h_
             have hji22u:(IntKind.i64.wrap (2 ^ min (l1.length:Int).toNat 64))=XV:=by have h_:=hji22_;rw [Int.one_mul] at h_;exact h_
             have hji22v:(l1.length:Int)≤64→(IntKind.i64.wrap (2 ^ (l1.length:Int).toNat))=XV:=fun hle_=>by have h_:=hji22z hle_;rw [Int.one_mul] at h_;exact h_
             have hji22y:(wrap64 (1*2 ^ min (l1.length:Int).toNat 64))=XV:=(Yn _).symm.trans hji22_
             have hji22x:(l1.length:Int)≤64→(wrap64 (1*2 ^ (l1.length:Int).toNat))=XV:=fun h_=>(Yn _).symm.trans (hji22z h_)
             by_cases c23:Z3<(XV)
             ·
              rw [if_pos c23] at H;have c23b0:decide (Z3<(XV))=true:=decide_eq_true c23;clear c23;replace H:=Option.bind_eq_some_iff.mp H;obtain ⟨Z9,qem,H⟩:=H;replace H:(if (Z9.length:Int)>a2 then (Qa.l2 k5 l0 l1 a2 ZE J3 J4 (wrap64 (Z3+1))) else ((Qq.f k5 l0 l1 Z9).bind fun Zx=>(if Zx.1>J3 then (Qa.l2 k5 l0 l1 a2 Z9 Zx.1 Zx.2 (wrap64 (Z3+1))) else (if Zx.1=J3 then (if Zx.2<J4 then (Qa.l2 k5 l0 l1 a2 Z9 Zx.1 Zx.2 (wrap64 (Z3+1))) else (if Zx.2=J4 then (if (Z9.length:Int)<(ZE.length:Int) then (Qa.l2 k5 l0 l1 a2 Z9 Zx.1 Zx.2 (wrap64 (Z3+1))) else (if (Z9.length:Int)=(ZE.length:Int) then ((Qu.f k5 Z9 ZE).bind fun qag=>(if qag=true then (Qa.l2 k5 l0 l1 a2 Z9 Zx.1 Zx.2 (wrap64 (Z3+1))) else (Qa.l2 k5 l0 l1 a2 ZE J3 J4 (wrap64 (Z3+1))))) else (Qa.l2 k5 l0 l1 a2 ZE J3 J4 (wrap64 (Z3+1))))) else (Qa.l2 k5 l0 l1 a2 ZE J3 J4 (wrap64 (Z3+1))))) else (Qa.l2 k5 l0 l1 a2 ZE J3 J4 (wrap64 (Z3+1)))))))=some (r1,r2,r3,r4):=H;have A24:=Q1.mk qem;clear qem
              by_cases c25:(Z9.length:Int)>a2
              ·
               rw [if_pos c25] at H;have c25b0:decide (a2<(Z9.length:Int))=true:=decide_eq_true c25;clear c25;have H':=Q1.mk H;clear H
               go_wp2_with (first|((with_reducible refine Qp (f:=55) rfl ?_);refine Yd (some 82) rfl rfl Try.func55 (by kernel_rfl) rfl #[.int .i64 Z3,.int .i64 (l1.length:Int)] rfl (by (try simp only [List.map_toArray,List.map_cons,List.map_nil]);first|done|rfl|(simp only [List.length_drop,List.length_take];rfl)) ?_;(with_reducible refine (Qx.calls k5 Z3 (l1.length:Int) Z9 _ A24.out).mono ?_);rintro e w26 ⟨qfH,rfl,ho0,hb⟩;refine ⟨_,rfl,?_⟩;have n0_:=Q1.mk (Kd.R_elder' (by (with_reducible repeat (first|apply Kd.R_alloc|apply Kd.R_drewN|apply Kd.R_drew));exact HO_13.out) (Kd.R_base ho0) hb);have n1_:=Q1.mk (Kd.R_lower (Kd.R_new' ho0 (Kd.R_lt (by (with_reducible repeat (first|apply Kd.R_alloc|apply Kd.R_drewN|apply Kd.R_drew));exact HO_13.out))) (Qe (by repeat (first|(with_reducible first|exact HB.out|apply Q2|apply Q0|apply Q5)|exact HB.out))));have n2_:=Q1.mk (Qj (by repeat (first|(with_reducible first|exact HB.out|apply Q2|apply Q0|apply Q5)|exact HB.out)) hb);clear HO_13 HB;have HO_13:=n0_;have ZX:=n1_;have HB:=n2_;clear n0_ n1_ n2_;(try clear hb);(try clear hb2);(try clear hk);(try clear hi);(try clear ho0);obtain ⟨qpD,qql,qoB⟩:=Kd.R_slice ZX.out;subst qoB))
               go_roundg k5
               case measure=>have:=HJ3.out;have:=HK2.out;have:=HJ5.out;have:=UZ.out;have:=HK5.out;omega
               case rel=>exact ⟨(ZE),(J3),(J4),(wrap64 (Z3+1)),(by first|rfl|(simp;done)|(simp [*];done)),(by first|rfl|(simp;done)|(simp [*];done)),(by first|rfl|(simp;done)|(simp [*];done)),H',⟨by have:=HJ3.out;have:=HK2.out;have:=HJ5.out;have:=UZ.out;have:=HK5.out;omega⟩,⟨by (with_reducible repeat (first|apply Kd.R_alloc|apply Kd.R_drewN|apply Kd.R_drew));exact Kd.R_mono HO_13.out (fun _ hk=>trivial)⟩,⟨by repeat (first|(with_reducible first|exact HB.out|apply Q2|apply Q0|apply Q5)|exact HB.out)⟩⟩
              rw [if_neg c25] at H;have c25b0:decide (a2<(Z9.length:Int))=false:=decide_eq_false c25;clear c25;replace H:=Option.bind_eq_some_iff.mp H;obtain ⟨⟨KD,KE⟩,qi5,H⟩:=H;replace H:(if KD>J3 then (Qa.l2 k5 l0 l1 a2 Z9 KD KE (wrap64 (Z3+1))) else (if KD=J3 then (if KE<J4 then (Qa.l2 k5 l0 l1 a2 Z9 KD KE (wrap64 (Z3+1))) else (if KE=J4 then (if (Z9.length:Int)<(ZE.length:Int) then (Qa.l2 k5 l0 l1 a2 Z9 KD KE (wrap64 (Z3+1))) else (if (Z9.length:Int)=(ZE.length:Int) then ((Qu.f k5 Z9 ZE).bind fun qag=>(if qag=true then (Qa.l2 k5 l0 l1 a2 Z9 KD KE (wrap64 (Z3+1))) else (Qa.l2 k5 l0 l1 a2 ZE J3 J4 (wrap64 (Z3+1))))) else (Qa.l2 k5 l0 l1 a2 ZE J3 J4 (wrap64 (Z3+1))))) else (Qa.l2 k5 l0 l1 a2 ZE J3 J4 (wrap64 (Z3+1))))) else (Qa.l2 k5 l0 l1 a2 ZE J3 J4 (wrap64 (Z3+1)))))=some (r1,r2,r3,r4):=H;have A28:=Q1.mk qi5;clear qi5
              by_cases c29:KD>J3
              ·
               rw [if_pos c29] at H;have c29b0:decide (J3<KD)=true:=decide_eq_true c29;clear c29;have H':=Q1.mk H;clear H
               go_wp2_with (first|((with_reducible refine Qp (f:=55) rfl ?_);refine Yd (some 82) rfl rfl Try.func55 (by kernel_rfl) rfl #[.int .i64 Z3,.int .i64 (l1.length:Int)] rfl (by (try simp only [List.map_toArray,List.map_cons,List.map_nil]);first|done|rfl|(simp only [List.length_drop,List.length_take];rfl)) ?_;(with_reducible refine (Qx.calls k5 Z3 (l1.length:Int) Z9 _ A24.out).mono ?_);rintro e w30 ⟨qfH,rfl,ho0,hb⟩;refine ⟨_,rfl,?_⟩;have n0_:=Q1.mk (Kd.R_elder' (by (with_reducible repeat (first|apply Kd.R_alloc|apply Kd.R_drewN|apply Kd.R_drew));exact HO_13.out) (Kd.R_base ho0) hb);have n1_:=Q1.mk (Kd.R_lower (Kd.R_new' ho0 (Kd.R_lt (by (with_reducible repeat (first|apply Kd.R_alloc|apply Kd.R_drewN|apply Kd.R_drew));exact HO_13.out))) (Qe (by repeat (first|(with_reducible first|exact HB.out|apply Q2|apply Q0|apply Q5)|exact HB.out))));have n2_:=Q1.mk (Qj (by repeat (first|(with_reducible first|exact HB.out|apply Q2|apply Q0|apply Q5)|exact HB.out)) hb);clear HO_13 HB;have HO_13:=n0_;have ZX:=n1_;have HB:=n2_;clear n0_ n1_ n2_;(try clear hb);(try clear hb2);(try clear hk);(try clear hi);(try clear ho0);obtain ⟨qn6,qol,qoD⟩:=Kd.R_slice ZX.out;subst qoD)|((with_reducible refine Qp (f:=92) rfl ?_);refine Yd (some 91) rfl rfl Try.func92 (by kernel_rfl) rfl #[.slice A0 l0.length c0,.slice A1 l1.length c1,.slice qn6 Z9.length qol] rfl (by (try simp only [List.map_toArray,List.map_cons,List.map_nil]);first|done|rfl|(simp only [List.length_drop,List.length_take];rfl)) ?_;(with_reducible refine (Qq.calls k5 _ _ l0 _ _ l1 _ _ Z9 KD KE _ ?side1 ?side2 ?side3 ?side4 ?side5 ?side6 A28.out).mono ?_);(case side1=>repeat (first|exact (Kd.C_below HR0.out HB.out)|(with_reducible refine Kd.C_alloc ?_ _)|(with_reducible refine Kd.C_drewN ?_ _)|(with_reducible refine Kd.C_drew ?_)));(case side2=>exact HC0.out);(case side3=>repeat (first|exact (Kd.C_below HR1.out HB.out)|(with_reducible refine Kd.C_alloc ?_ _)|(with_reducible refine Kd.C_drewN ?_ _)|(with_reducible refine Kd.C_drew ?_)));(case side4=>exact HC1.out);(case side5=>repeat (first|exact (Kd.R_reads' ZX.out).2.2|(with_reducible refine Kd.C_alloc ?_ _)|(with_reducible refine Kd.C_drewN ?_ _)|(with_reducible refine Kd.C_drew ?_)));(case side6=>exact (Kd.R_reads' ZX.out).2.1);rintro e w' ⟨rfl,⟨nd,rfl⟩⟩;refine ⟨_,rfl,?_⟩))
               go_roundg k5
               case measure=>have:=HJ3.out;have:=HK2.out;have:=HJ5.out;have:=UZ.out;have:=HK5.out;omega
               case rel=>exact ⟨(Z9),(KD),(KE),(wrap64 (Z3+1)),(by first|rfl|(simp;done)|(simp [*];done)),(by first|rfl|(simp;done)|(simp [*];done)),(by first|rfl|(simp;done)|(simp [*];done)),H',⟨by have:=HJ3.out;have:=HK2.out;have:=HJ5.out;have:=UZ.out;have:=HK5.out;omega⟩,⟨by (with_reducible repeat (first|apply Kd.R_alloc|apply Kd.R_drewN|apply Kd.R_drew));exact Kd.R_mono ZX.out (fun _ hk=>trivial)⟩,⟨by repeat (first|(with_reducible first|exact HB.out|apply Q2|apply Q0|apply Q5)|exact HB.out)⟩⟩
              rw [if_neg c29] at H;have c29b0:decide (J3<KD)=false:=decide_eq_false c29;clear c29
              by_cases c32:KD=J3
              ·
               rw [if_pos c32] at H;have c32b0:(KD==J3)=true:=beq_iff_eq.mpr c32;have c32b1:(KD != J3)=false:=bne_eq_false_iff_eq.mpr c32;clear c32
               by_cases c33:KE<J4
               ·
                rw [if_pos c33] at H;have c33b0:decide (KE<J4)=true:=decide_eq_true c33;clear c33;have H':=Q1.mk H;clear H
                go_wp2_with (first|((with_reducible refine Qp (f:=55) rfl ?_);refine Yd (some 82) rfl rfl Try.func55 (by kernel_rfl) rfl #[.int .i64 Z3,.int .i64 (l1.length:Int)] rfl (by (try simp only [List.map_toArray,List.map_cons,List.map_nil]);first|done|rfl|(simp only [List.length_drop,List.length_take];rfl)) ?_;(with_reducible refine (Qx.calls k5 Z3 (l1.length:Int) Z9 _ A24.out).mono ?_);rintro e w34 ⟨qfH,rfl,ho0,hb⟩;refine ⟨_,rfl,?_⟩;have n0_:=Q1.mk (Kd.R_elder' (by (with_reducible repeat (first|apply Kd.R_alloc|apply Kd.R_drewN|apply Kd.R_drew));exact HO_13.out) (Kd.R_base ho0) hb);have n1_:=Q1.mk (Kd.R_lower (Kd.R_new' ho0 (Kd.R_lt (by (with_reducible repeat (first|apply Kd.R_alloc|apply Kd.R_drewN|apply Kd.R_drew));exact HO_13.out))) (Qe (by repeat (first|(with_reducible first|exact HB.out|apply Q2|apply Q0|apply Q5)|exact HB.out))));have n2_:=Q1.mk (Qj (by repeat (first|(with_reducible first|exact HB.out|apply Q2|apply Q0|apply Q5)|exact HB.out)) hb);clear HO_13 HB;have HO_13:=n0_;have ZX:=n1_;have HB:=n2_;clear n0_ n1_ n2_;(try clear hb);(try clear hb2);(try clear hk);(try clear hi);(try clear ho0);obtain ⟨qym,qyK,qzg⟩:=Kd.R_slice ZX.out;subst qzg)|((with_reducible refine Qp (f:=92) rfl ?_);refine Yd (some 91) rfl rfl Try.func92 (by kernel_rfl) rfl #[.slice A0 l0.length c0,.slice A1 l1.length c1,.slice qym Z9.length qyK] rfl (by (try simp only [List.map_toArray,List.map_cons,List.map_nil]);first|done|rfl|(simp only [List.length_drop,List.length_take];rfl)) ?_;(with_reducible refine (Qq.calls k5 _ _ l0 _ _ l1 _ _ Z9 KD KE _ ?side1 ?side2 ?side3 ?side4 ?side5 ?side6 A28.out).mono ?_);(case side1=>repeat (first|exact (Kd.C_below HR0.out HB.out)|(with_reducible refine Kd.C_alloc ?_ _)|(with_reducible refine Kd.C_drewN ?_ _)|(with_reducible refine Kd.C_drew ?_)));(case side2=>exact HC0.out);(case side3=>repeat (first|exact (Kd.C_below HR1.out HB.out)|(with_reducible refine Kd.C_alloc ?_ _)|(with_reducible refine Kd.C_drewN ?_ _)|(with_reducible refine Kd.C_drew ?_)));(case side4=>exact HC1.out);(case side5=>repeat (first|exact (Kd.R_reads' ZX.out).2.2|(with_reducible refine Kd.C_alloc ?_ _)|(with_reducible refine Kd.C_drewN ?_ _)|(with_reducible refine Kd.C_drew ?_)));(case side6=>exact (Kd.R_reads' ZX.out).2.1);rintro e w' ⟨rfl,⟨nd,rfl⟩⟩;refine ⟨_,rfl,?_⟩))
                go_roundg k5
                case measure=>have:=HJ3.out;have:=HK2.out;have:=HJ5.out;have:=UZ.out;have:=HK5.out;omega
                case rel=>exact ⟨(Z9),(KD),(KE),(wrap64 (Z3+1)),(by first|rfl|(simp;done)|(simp [*];done)),(by first|rfl|(simp;done)|(simp [*];done)),(by first|rfl|(simp;done)|(simp [*];done)),H',⟨by have:=HJ3.out;have:=HK2.out;have:=HJ5.out;have:=UZ.out;have:=HK5.out;omega⟩,⟨by (with_reducible repeat (first|apply Kd.R_alloc|apply Kd.R_drewN|apply Kd.R_drew));exact Kd.R_mono ZX.out (fun _ hk=>trivial)⟩,⟨by repeat (first|(with_reducible first|exact HB.out|apply Q2|apply Q0|apply Q5)|exact HB.out)⟩⟩
               rw [if_neg c33] at H;have c33b0:decide (KE<J4)=false:=decide_eq_false c33;clear c33
               by_cases c36:KE=J4
               ·
                rw [if_pos c36] at H;have c36b0:(KE==J4)=true:=beq_iff_eq.mpr c36;have c36b1:(KE != J4)=false:=bne_eq_false_iff_eq.mpr c36;clear c36
                by_cases c37:(Z9.length:Int)<(ZE.length:Int)
                ·
                 rw [if_pos c37] at H;have c37b0:decide ((Z9.length:Int)<(ZE.length:Int))=true:=decide_eq_true c37;have c37b1:decide (Z9.length<ZE.length)=true:=decide_eq_true (Int.ofNat_lt.mp c37);clear c37;have H':=Q1.mk H;clear H
                 go_wp2_with (first|((with_reducible refine Qp (f:=55) rfl ?_);refine Yd (some 82) rfl rfl Try.func55 (by kernel_rfl) rfl #[.int .i64 Z3,.int .i64 (l1.length:Int)] rfl (by (try simp only [List.map_toArray,List.map_cons,List.map_nil]);first|done|rfl|(simp only [List.length_drop,List.length_take];rfl)) ?_;(with_reducible refine (Qx.calls k5 Z3 (l1.length:Int) Z9 _ A24.out).mono ?_);rintro e w38 ⟨qfH,rfl,ho0,hb⟩;refine ⟨_,rfl,?_⟩;have n0_:=Q1.mk (Kd.R_elder' (by (with_reducible repeat (first|apply Kd.R_alloc|apply Kd.R_drewN|apply Kd.R_drew));exact HO_13.out) (Kd.R_base ho0) hb);have n1_:=Q1.mk (Kd.R_lower (Kd.R_new' ho0 (Kd.R_lt (by (with_reducible repeat (first|apply Kd.R_alloc|apply Kd.R_drewN|apply Kd.R_drew));exact HO_13.out))) (Qe (by repeat (first|(with_reducible first|exact HB.out|apply Q2|apply Q0|apply Q5)|exact HB.out))));have n2_:=Q1.mk (Qj (by repeat (first|(with_reducible first|exact HB.out|apply Q2|apply Q0|apply Q5)|exact HB.out)) hb);clear HO_13 HB;have HO_13:=n0_;have ZX:=n1_;have HB:=n2_;clear n0_ n1_ n2_;(try clear hb);(try clear hb2);(try clear hk);(try clear hi);(try clear ho0);obtain ⟨qyn,qyL,qzk⟩:=Kd.R_slice ZX.out;subst qzk)|((with_reducible refine Qp (f:=92) rfl ?_);refine Yd (some 91) rfl rfl Try.func92 (by kernel_rfl) rfl #[.slice A0 l0.length c0,.slice A1 l1.length c1,.slice qyn Z9.length qyL] rfl (by (try simp only [List.map_toArray,List.map_cons,List.map_nil]);first|done|rfl|(simp only [List.length_drop,List.length_take];rfl)) ?_;(with_reducible refine (Qq.calls k5 _ _ l0 _ _ l1 _ _ Z9 KD KE _ ?side1 ?side2 ?side3 ?side4 ?side5 ?side6 A28.out).mono ?_);(case side1=>repeat (first|exact (Kd.C_below HR0.out HB.out)|(with_reducible refine Kd.C_alloc ?_ _)|(with_reducible refine Kd.C_drewN ?_ _)|(with_reducible refine Kd.C_drew ?_)));(case side2=>exact HC0.out);(case side3=>repeat (first|exact (Kd.C_below HR1.out HB.out)|(with_reducible refine Kd.C_alloc ?_ _)|(with_reducible refine Kd.C_drewN ?_ _)|(with_reducible refine Kd.C_drew ?_)));(case side4=>exact HC1.out);(case side5=>repeat (first|exact (Kd.R_reads' ZX.out).2.2|(with_reducible refine Kd.C_alloc ?_ _)|(with_reducible refine Kd.C_drewN ?_ _)|(with_reducible refine Kd.C_drew ?_)));(case side6=>exact (Kd.R_reads' ZX.out).2.1);rintro e w' ⟨rfl,⟨nd,rfl⟩⟩;refine ⟨_,rfl,?_⟩;obtain ⟨qCd,qCi,qzl⟩:=Kd.R_slice HO_13.out;subst qzl))
                 go_roundg k5
                 case measure=>have:=HJ3.out;have:=HK2.out;have:=HJ5.out;have:=UZ.out;have:=HK5.out;omega
                 case rel=>exact ⟨(Z9),(KD),(KE),(wrap64 (Z3+1)),(by first|rfl|(simp;done)|(simp [*];done)),(by first|rfl|(simp;done)|(simp [*];done)),(by first|rfl|(simp;done)|(simp [*];done)),H',⟨by have:=HJ3.out;have:=HK2.out;have:=HJ5.out;have:=UZ.out;have:=HK5.out;omega⟩,⟨by (with_reducible repeat (first|apply Kd.R_alloc|apply Kd.R_drewN|apply Kd.R_drew));exact Kd.R_mono ZX.out (fun _ hk=>trivial)⟩,⟨by repeat (first|(with_reducible first|exact HB.out|apply Q2|apply Q0|apply Q5)|exact HB.out)⟩⟩
                rw [if_neg c37] at H;have c37b0:decide ((Z9.length:Int)<(ZE.length:Int))=false:=decide_eq_false c37;have c37b1:decide (Z9.length<ZE.length)=false:=decide_eq_false (fun h=>c37 (Int.ofNat_lt.mpr h));clear c37
                by_cases c41:(Z9.length:Int)=(ZE.length:Int)
                ·
                 rw [if_pos c41] at H;have c41b0:((Z9.length:Int)==(ZE.length:Int))=true:=beq_iff_eq.mpr c41;have c41b1:((Z9.length:Int) != (ZE.length:Int))=false:=bne_eq_false_iff_eq.mpr c41
                 have c41b2:(Z9.length==ZE.length)=true:=by first|simpa using c41|(simp at c41 ⊢;omega)
                 clear c41;replace H:=Option.bind_eq_some_iff.mp H;obtain ⟨qag,qpy,H⟩:=H;replace H:(if qag=true then (Qa.l2 k5 l0 l1 a2 Z9 KD KE (wrap64 (Z3+1))) else (Qa.l2 k5 l0 l1 a2 ZE J3 J4 (wrap64 (Z3+1))))=some (r1,r2,r3,r4):=H;have A42:=Q1.mk qpy;clear qpy
                 by_cases c43:qag=true
                 ·
                  subst c43
                  have H1:(Qa.l2 k5 l0 l1 a2 Z9 KD KE (wrap64 (Z3+1)))=some (r1,r2,r3,r4):=by rw [if_pos rfl] at H;exact H
                  clear H;have H:=H1;clear H1;have H':=Q1.mk H;clear H
                  go_wp2_with (first|((with_reducible refine Qp (f:=55) rfl ?_);refine Yd (some 82) rfl rfl Try.func55 (by kernel_rfl) rfl #[.int .i64 Z3,.int .i64 (l1.length:Int)] rfl (by (try simp only [List.map_toArray,List.map_cons,List.map_nil]);first|done|rfl|(simp only [List.length_drop,List.length_take];rfl)) ?_;(with_reducible refine (Qx.calls k5 Z3 (l1.length:Int) Z9 _ A24.out).mono ?_);rintro e w44 ⟨qfH,rfl,ho0,hb⟩;refine ⟨_,rfl,?_⟩;have n0_:=Q1.mk (Kd.R_elder' (by (with_reducible repeat (first|apply Kd.R_alloc|apply Kd.R_drewN|apply Kd.R_drew));exact HO_13.out) (Kd.R_base ho0) hb);have n1_:=Q1.mk (Kd.R_lower (Kd.R_new' ho0 (Kd.R_lt (by (with_reducible repeat (first|apply Kd.R_alloc|apply Kd.R_drewN|apply Kd.R_drew));exact HO_13.out))) (Qe (by repeat (first|(with_reducible first|exact HB.out|apply Q2|apply Q0|apply Q5)|exact HB.out))));have n2_:=Q1.mk (Qj (by repeat (first|(with_reducible first|exact HB.out|apply Q2|apply Q0|apply Q5)|exact HB.out)) hb);clear HO_13 HB;have HO_13:=n0_;have ZX:=n1_;have HB:=n2_;clear n0_ n1_ n2_;(try clear hb);(try clear hb2);(try clear hk);(try clear hi);(try clear ho0);obtain ⟨qyo,qyM,qzm⟩:=Kd.R_slice ZX.out;subst qzm)|((with_reducible refine Qp (f:=92) rfl ?_);refine Yd (some 91) rfl rfl Try.func92 (by kernel_rfl) rfl #[.slice A0 l0.length c0,.slice A1 l1.length c1,.slice qyo Z9.length qyM] rfl (by (try simp only [List.map_toArray,List.map_cons,List.map_nil]);first|done|rfl|(simp only [List.length_drop,List.length_take];rfl)) ?_;(with_reducible refine (Qq.calls k5 _ _ l0 _ _ l1 _ _ Z9 KD KE _ ?side1 ?side2 ?side3 ?side4 ?side5 ?side6 A28.out).mono ?_);(case side1=>repeat (first|exact (Kd.C_below HR0.out HB.out)|(with_reducible refine Kd.C_alloc ?_ _)|(with_reducible refine Kd.C_drewN ?_ _)|(with_reducible refine Kd.C_drew ?_)));(case side2=>exact HC0.out);(case side3=>repeat (first|exact (Kd.C_below HR1.out HB.out)|(with_reducible refine Kd.C_alloc ?_ _)|(with_reducible refine Kd.C_drewN ?_ _)|(with_reducible refine Kd.C_drew ?_)));(case side4=>exact HC1.out);(case side5=>repeat (first|exact (Kd.R_reads' ZX.out).2.2|(with_reducible refine Kd.C_alloc ?_ _)|(with_reducible refine Kd.C_drewN ?_ _)|(with_reducible refine Kd.C_drew ?_)));(case side6=>exact (Kd.R_reads' ZX.out).2.1);rintro e w' ⟨rfl,⟨nd,rfl⟩⟩;refine ⟨_,rfl,?_⟩;obtain ⟨qCe,qCj,qzn⟩:=Kd.R_slice HO_13.out;subst qzn)|(go_at_call 56;(with_reducible refine (Qu.calls k5 _ _ Z9 _ _ ZE true _ ?side1 ?side2 ?side3 ?side4 A42.out).mono ?_);(case side1=>repeat (first|exact (Kd.R_reads' ZX.out).2.2|(with_reducible refine Kd.C_alloc ?_ _)|(with_reducible refine Kd.C_drewN ?_ _)|(with_reducible refine Kd.C_drew ?_)));(case side2=>exact (Kd.R_reads' ZX.out).2.1);(case side3=>repeat (first|exact (Kd.R_reads' HO_13.out).2.2|(with_reducible refine Kd.C_alloc ?_ _)|(with_reducible refine Kd.C_drewN ?_ _)|(with_reducible refine Kd.C_drew ?_)));(case side4=>exact (Kd.R_reads' HO_13.out).2.1);rintro e w' ⟨rfl,⟨nd,rfl⟩⟩))
                  go_roundg k5
                  case measure=>have:=HJ3.out;have:=HK2.out;have:=HJ5.out;have:=UZ.out;have:=HK5.out;omega
                  case rel=>exact ⟨(Z9),(KD),(KE),(wrap64 (Z3+1)),(by first|rfl|(simp;done)|(simp [*];done)),(by first|rfl|(simp;done)|(simp [*];done)),(by first|rfl|(simp;done)|(simp [*];done)),H',⟨by have:=HJ3.out;have:=HK2.out;have:=HJ5.out;have:=UZ.out;have:=HK5.out;omega⟩,⟨by (with_reducible repeat (first|apply Kd.R_alloc|apply Kd.R_drewN|apply Kd.R_drew));exact Kd.R_mono ZX.out (fun _ hk=>trivial)⟩,⟨by repeat (first|(with_reducible first|exact HB.out|apply Q2|apply Q0|apply Q5)|exact HB.out)⟩⟩
                 replace c43:=Bool.eq_false_iff.mpr c43;subst c43
                 have H1:(Qa.l2 k5 l0 l1 a2 ZE J3 J4 (wrap64 (Z3+1)))=some (r1,r2,r3,r4):=by rw [if_neg (show ¬ (false=true) by decide)] at H;exact H
                 clear H;have H:=H1;clear H1;have H':=Q1.mk H;clear H
                 go_wp2_with (first|((with_reducible refine Qp (f:=55) rfl ?_);refine Yd (some 82) rfl rfl Try.func55 (by kernel_rfl) rfl #[.int .i64 Z3,.int .i64 (l1.length:Int)] rfl (by (try simp only [List.map_toArray,List.map_cons,List.map_nil]);first|done|rfl|(simp only [List.length_drop,List.length_take];rfl)) ?_;(with_reducible refine (Qx.calls k5 Z3 (l1.length:Int) Z9 _ A24.out).mono ?_);rintro e w47 ⟨qfH,rfl,ho0,hb⟩;refine ⟨_,rfl,?_⟩;have n0_:=Q1.mk (Kd.R_elder' (by (with_reducible repeat (first|apply Kd.R_alloc|apply Kd.R_drewN|apply Kd.R_drew));exact HO_13.out) (Kd.R_base ho0) hb);have n1_:=Q1.mk (Kd.R_lower (Kd.R_new' ho0 (Kd.R_lt (by (with_reducible repeat (first|apply Kd.R_alloc|apply Kd.R_drewN|apply Kd.R_drew));exact HO_13.out))) (Qe (by repeat (first|(with_reducible first|exact HB.out|apply Q2|apply Q0|apply Q5)|exact HB.out))));have n2_:=Q1.mk (Qj (by repeat (first|(with_reducible first|exact HB.out|apply Q2|apply Q0|apply Q5)|exact HB.out)) hb);clear HO_13 HB;have HO_13:=n0_;have ZX:=n1_;have HB:=n2_;clear n0_ n1_ n2_;(try clear hb);(try clear hb2);(try clear hk);(try clear hi);(try clear ho0);obtain ⟨qyp,qyN,qzo⟩:=Kd.R_slice ZX.out;subst qzo)|((with_reducible refine Qp (f:=92) rfl ?_);refine Yd (some 91) rfl rfl Try.func92 (by kernel_rfl) rfl #[.slice A0 l0.length c0,.slice A1 l1.length c1,.slice qyp Z9.length qyN] rfl (by (try simp only [List.map_toArray,List.map_cons,List.map_nil]);first|done|rfl|(simp only [List.length_drop,List.length_take];rfl)) ?_;(with_reducible refine (Qq.calls k5 _ _ l0 _ _ l1 _ _ Z9 KD KE _ ?side1 ?side2 ?side3 ?side4 ?side5 ?side6 A28.out).mono ?_);(case side1=>repeat (first|exact (Kd.C_below HR0.out HB.out)|(with_reducible refine Kd.C_alloc ?_ _)|(with_reducible refine Kd.C_drewN ?_ _)|(with_reducible refine Kd.C_drew ?_)));(case side2=>exact HC0.out);(case side3=>repeat (first|exact (Kd.C_below HR1.out HB.out)|(with_reducible refine Kd.C_alloc ?_ _)|(with_reducible refine Kd.C_drewN ?_ _)|(with_reducible refine Kd.C_drew ?_)));(case side4=>exact HC1.out);(case side5=>repeat (first|exact (Kd.R_reads' ZX.out).2.2|(with_reducible refine Kd.C_alloc ?_ _)|(with_reducible refine Kd.C_drewN ?_ _)|(with_reducible refine Kd.C_drew ?_)));(case side6=>exact (Kd.R_reads' ZX.out).2.1);rintro e w' ⟨rfl,⟨nd,rfl⟩⟩;refine ⟨_,rfl,?_⟩;obtain ⟨qCf,qCk,qzp⟩:=Kd.R_slice HO_13.out;subst qzp)|(go_at_call 56;(with_reducible refine (Qu.calls k5 _ _ Z9 _ _ ZE false _ ?side1 ?side2 ?side3 ?side4 A42.out).mono ?_);(case side1=>repeat (first|exact (Kd.R_reads' ZX.out).2.2|(with_reducible refine Kd.C_alloc ?_ _)|(with_reducible refine Kd.C_drewN ?_ _)|(with_reducible refine Kd.C_drew ?_)));(case side2=>exact (Kd.R_reads' ZX.out).2.1);(case side3=>repeat (first|exact (Kd.R_reads' HO_13.out).2.2|(with_reducible refine Kd.C_alloc ?_ _)|(with_reducible refine Kd.C_drewN ?_ _)|(with_reducible refine Kd.C_drew ?_)));(case side4=>exact (Kd.R_reads' HO_13.out).2.1);rintro e w' ⟨rfl,⟨nd,rfl⟩⟩))
                 go_roundg k5
                 case measure=>have:=HJ3.out;have:=HK2.out;have:=HJ5.out;have:=UZ.out;have:=HK5.out;omega
                 case rel=>exact ⟨(ZE),(J3),(J4),(wrap64 (Z3+1)),(by first|rfl|(simp;done)|(simp [*];done)),(by first|rfl|(simp;done)|(simp [*];done)),(by first|rfl|(simp;done)|(simp [*];done)),H',⟨by have:=HJ3.out;have:=HK2.out;have:=HJ5.out;have:=UZ.out;have:=HK5.out;omega⟩,⟨by (with_reducible repeat (first|apply Kd.R_alloc|apply Kd.R_drewN|apply Kd.R_drew));exact Kd.R_mono HO_13.out (fun _ hk=>trivial)⟩,⟨by repeat (first|(with_reducible first|exact HB.out|apply Q2|apply Q0|apply Q5)|exact HB.out)⟩⟩
                rw [if_neg c41] at H;have c41b0:((Z9.length:Int)==(ZE.length:Int))=false:=beq_eq_false_iff_ne.mpr c41;have c41b1:((Z9.length:Int) != (ZE.length:Int))=true:=bne_iff_ne.mpr c41
                have c41b2:(Z9.length==ZE.length)=false:=by first|simpa using c41|(simp at c41 ⊢;omega)
                have H':=Q1.mk H;clear H
                go_wp2_with (first|((with_reducible refine Qp (f:=55) rfl ?_);refine Yd (some 82) rfl rfl Try.func55 (by kernel_rfl) rfl #[.int .i64 Z3,.int .i64 (l1.length:Int)] rfl (by (try simp only [List.map_toArray,List.map_cons,List.map_nil]);first|done|rfl|(simp only [List.length_drop,List.length_take];rfl)) ?_;(with_reducible refine (Qx.calls k5 Z3 (l1.length:Int) Z9 _ A24.out).mono ?_);rintro e w50 ⟨qfH,rfl,ho0,hb⟩;refine ⟨_,rfl,?_⟩;have n0_:=Q1.mk (Kd.R_elder' (by (with_reducible repeat (first|apply Kd.R_alloc|apply Kd.R_drewN|apply Kd.R_drew));exact HO_13.out) (Kd.R_base ho0) hb);have n1_:=Q1.mk (Kd.R_lower (Kd.R_new' ho0 (Kd.R_lt (by (with_reducible repeat (first|apply Kd.R_alloc|apply Kd.R_drewN|apply Kd.R_drew));exact HO_13.out))) (Qe (by repeat (first|(with_reducible first|exact HB.out|apply Q2|apply Q0|apply Q5)|exact HB.out))));have n2_:=Q1.mk (Qj (by repeat (first|(with_reducible first|exact HB.out|apply Q2|apply Q0|apply Q5)|exact HB.out)) hb);clear HO_13 HB;have HO_13:=n0_;have ZX:=n1_;have HB:=n2_;clear n0_ n1_ n2_;(try clear hb);(try clear hb2);(try clear hk);(try clear hi);(try clear ho0);obtain ⟨qyq,qyO,qzq⟩:=Kd.R_slice ZX.out;subst qzq)|((with_reducible refine Qp (f:=92) rfl ?_);refine Yd (some 91) rfl rfl Try.func92 (by kernel_rfl) rfl #[.slice A0 l0.length c0,.slice A1 l1.length c1,.slice qyq Z9.length qyO] rfl (by (try simp only [List.map_toArray,List.map_cons,List.map_nil]);first|done|rfl|(simp only [List.length_drop,List.length_take];rfl)) ?_;(with_reducible refine (Qq.calls k5 _ _ l0 _ _ l1 _ _ Z9 KD KE _ ?side1 ?side2 ?side3 ?side4 ?side5 ?side6 A28.out).mono ?_);(case side1=>repeat (first|exact (Kd.C_below HR0.out HB.out)|(with_reducible refine Kd.C_alloc ?_ _)|(with_reducible refine Kd.C_drewN ?_ _)|(with_reducible refine Kd.C_drew ?_)));(case side2=>exact HC0.out);(case side3=>repeat (first|exact (Kd.C_below HR1.out HB.out)|(with_reducible refine Kd.C_alloc ?_ _)|(with_reducible refine Kd.C_drewN ?_ _)|(with_reducible refine Kd.C_drew ?_)));(case side4=>exact HC1.out);(case side5=>repeat (first|exact (Kd.R_reads' ZX.out).2.2|(with_reducible refine Kd.C_alloc ?_ _)|(with_reducible refine Kd.C_drewN ?_ _)|(with_reducible refine Kd.C_drew ?_)));(case side6=>exact (Kd.R_reads' ZX.out).2.1);rintro e w' ⟨rfl,⟨nd,rfl⟩⟩;refine ⟨_,rfl,?_⟩;obtain ⟨qCg,qCl,qzr⟩:=Kd.R_slice HO_13.out;subst qzr))
                go_roundg k5
                case measure=>have:=HJ3.out;have:=HK2.out;have:=HJ5.out;have:=UZ.out;have:=HK5.out;omega
                case rel=>exact ⟨(ZE),(J3),(J4),(wrap64 (Z3+1)),(by first|rfl|(simp;done)|(simp [*];done)),(by first|rfl|(simp;done)|(simp [*];done)),(by first|rfl|(simp;done)|(simp [*];done)),H',⟨by have:=HJ3.out;have:=HK2.out;have:=HJ5.out;have:=UZ.out;have:=HK5.out;omega⟩,⟨by (with_reducible repeat (first|apply Kd.R_alloc|apply Kd.R_drewN|apply Kd.R_drew));exact Kd.R_mono HO_13.out (fun _ hk=>trivial)⟩,⟨by repeat (first|(with_reducible first|exact HB.out|apply Q2|apply Q0|apply Q5)|exact HB.out)⟩⟩
               rw [if_neg c36] at H;have c36b0:(KE==J4)=false:=beq_eq_false_iff_ne.mpr c36;have c36b1:(KE != J4)=true:=bne_iff_ne.mpr c36;have H':=Q1.mk H;clear H
               go_wp2_with (first|((with_reducible refine Qp (f:=55) rfl ?_);refine Yd (some 82) rfl rfl Try.func55 (by kernel_rfl) rfl #[.int .i64 Z3,.int .i64 (l1.length:Int)] rfl (by (try simp only [List.map_toArray,List.map_cons,List.map_nil]);first|done|rfl|(simp only [List.length_drop,List.length_take];rfl)) ?_;(with_reducible refine (Qx.calls k5 Z3 (l1.length:Int) Z9 _ A24.out).mono ?_);rintro e w53 ⟨qfH,rfl,ho0,hb⟩;refine ⟨_,rfl,?_⟩;have n0_:=Q1.mk (Kd.R_elder' (by (with_reducible repeat (first|apply Kd.R_alloc|apply Kd.R_drewN|apply Kd.R_drew));exact HO_13.out) (Kd.R_base ho0) hb);have n1_:=Q1.mk (Kd.R_lower (Kd.R_new' ho0 (Kd.R_lt (by (with_reducible repeat (first|apply Kd.R_alloc|apply Kd.R_drewN|apply Kd.R_drew));exact HO_13.out))) (Qe (by repeat (first|(with_reducible first|exact HB.out|apply Q2|apply Q0|apply Q5)|exact HB.out))));have n2_:=Q1.mk (Qj (by repeat (first|(with_reducible first|exact HB.out|apply Q2|apply Q0|apply Q5)|exact HB.out)) hb);clear HO_13 HB;have HO_13:=n0_;have ZX:=n1_;have HB:=n2_;clear n0_ n1_ n2_;(try clear hb);(try clear hb2);(try clear hk);(try clear hi);(try clear ho0);obtain ⟨qyr,qyP,qzs⟩:=Kd.R_slice ZX.out;subst qzs)|((with_reducible refine Qp (f:=92) rfl ?_);refine Yd (some 91) rfl rfl Try.func92 (by kernel_rfl) rfl #[.slice A0 l0.length c0,.slice A1 l1.length c1,.slice qyr Z9.length qyP] rfl (by (try simp only [List.map_toArray,List.map_cons,List.map_nil]);first|done|rfl|(simp only [List.length_drop,List.length_take];rfl)) ?_;(with_reducible refine (Qq.calls k5 _ _ l0 _ _ l1 _ _ Z9 KD KE _ ?side1 ?side2 ?side3 ?side4 ?side5 ?side6 A28.out).mono ?_);(case side1=>repeat (first|exact (Kd.C_below HR0.out HB.out)|(with_reducible refine Kd.C_alloc ?_ _)|(with_reducible refine Kd.C_drewN ?_ _)|(with_reducible refine Kd.C_drew ?_)));(case side2=>exact HC0.out);(case side3=>repeat (first|exact (Kd.C_below HR1.out HB.out)|(with_reducible refine Kd.C_alloc ?_ _)|(with_reducible refine Kd.C_drewN ?_ _)|(with_reducible refine Kd.C_drew ?_)));(case side4=>exact HC1.out);(case side5=>repeat (first|exact (Kd.R_reads' ZX.out).2.2|(with_reducible refine Kd.C_alloc ?_ _)|(with_reducible refine Kd.C_drewN ?_ _)|(with_reducible refine Kd.C_drew ?_)));(case side6=>exact (Kd.R_reads' ZX.out).2.1);rintro e w' ⟨rfl,⟨nd,rfl⟩⟩;refine ⟨_,rfl,?_⟩))
               go_roundg k5
               case measure=>have:=HJ3.out;have:=HK2.out;have:=HJ5.out;have:=UZ.out;have:=HK5.out;omega
               case rel=>exact ⟨(ZE),(J3),(J4),(wrap64 (Z3+1)),(by first|rfl|(simp;done)|(simp [*];done)),(by first|rfl|(simp;done)|(simp [*];done)),(by first|rfl|(simp;done)|(simp [*];done)),H',⟨by have:=HJ3.out;have:=HK2.out;have:=HJ5.out;have:=UZ.out;have:=HK5.out;omega⟩,⟨by (with_reducible repeat (first|apply Kd.R_alloc|apply Kd.R_drewN|apply Kd.R_drew));exact Kd.R_mono HO_13.out (fun _ hk=>trivial)⟩,⟨by repeat (first|(with_reducible first|exact HB.out|apply Q2|apply Q0|apply Q5)|exact HB.out)⟩⟩
              rw [if_neg c32] at H;have c32b0:(KD==J3)=false:=beq_eq_false_iff_ne.mpr c32;have c32b1:(KD != J3)=true:=bne_iff_ne.mpr c32;have H':=Q1.mk H;clear H
              go_wp2_with (first|((with_reducible refine Qp (f:=55) rfl ?_);refine Yd (some 82) rfl rfl Try.func55 (by kernel_rfl) rfl #[.int .i64 Z3,.int .i64 (l1.length:Int)] rfl (by (try simp only [List.map_toArray,List.map_cons,List.map_nil]);first|done|rfl|(simp only [List.length_drop,List.length_take];rfl)) ?_;(with_reducible refine (Qx.calls k5 Z3 (l1.length:Int) Z9 _ A24.out).mono ?_);rintro e w55 ⟨qfH,rfl,ho0,hb⟩;refine ⟨_,rfl,?_⟩;have n0_:=Q1.mk (Kd.R_elder' (by (with_reducible repeat (first|apply Kd.R_alloc|apply Kd.R_drewN|apply Kd.R_drew));exact HO_13.out) (Kd.R_base ho0) hb);have n1_:=Q1.mk (Kd.R_lower (Kd.R_new' ho0 (Kd.R_lt (by (with_reducible repeat (first|apply Kd.R_alloc|apply Kd.R_drewN|apply Kd.R_drew));exact HO_13.out))) (Qe (by repeat (first|(with_reducible first|exact HB.out|apply Q2|apply Q0|apply Q5)|exact HB.out))));have n2_:=Q1.mk (Qj (by repeat (first|(with_reducible first|exact HB.out|apply Q2|apply Q0|apply Q5)|exact HB.out)) hb);clear HO_13 HB;have HO_13:=n0_;have ZX:=n1_;have HB:=n2_;clear n0_ n1_ n2_;(try clear hb);(try clear hb2);(try clear hk);(try clear hi);(try clear ho0);obtain ⟨qys,qyQ,qzt⟩:=Kd.R_slice ZX.out;subst qzt)|((with_reducible refine Qp (f:=92) rfl ?_);refine Yd (some 91) rfl rfl Try.func92 (by kernel_rfl) rfl #[.slice A0 l0.length c0,.slice A1 l1.length c1,.slice qys Z9.length qyQ] rfl (by (try simp only [List.map_toArray,List.map_cons,List.map_nil]);first|done|rfl|(simp only [List.length_drop,List.length_take];rfl)) ?_;(with_reducible refine (Qq.calls k5 _ _ l0 _ _ l1 _ _ Z9 KD KE _ ?side1 ?side2 ?side3 ?side4 ?side5 ?side6 A28.out).mono ?_);(case side1=>repeat (first|exact (Kd.C_below HR0.out HB.out)|(with_reducible refine Kd.C_alloc ?_ _)|(with_reducible refine Kd.C_drewN ?_ _)|(with_reducible refine Kd.C_drew ?_)));(case side2=>exact HC0.out);(case side3=>repeat (first|exact (Kd.C_below HR1.out HB.out)|(with_reducible refine Kd.C_alloc ?_ _)|(with_reducible refine Kd.C_drewN ?_ _)|(with_reducible refine Kd.C_drew ?_)));(case side4=>exact HC1.out);(case side5=>repeat (first|exact (Kd.R_reads' ZX.out).2.2|(with_reducible refine Kd.C_alloc ?_ _)|(with_reducible refine Kd.C_drewN ?_ _)|(with_reducible refine Kd.C_drew ?_)));(case side6=>exact (Kd.R_reads' ZX.out).2.1);rintro e w' ⟨rfl,⟨nd,rfl⟩⟩;refine ⟨_,rfl,?_⟩))
              go_roundg k5
              case measure=>have:=HJ3.out;have:=HK2.out;have:=HJ5.out;have:=UZ.out;have:=HK5.out;omega
              case rel=>exact ⟨(ZE),(J3),(J4),(wrap64 (Z3+1)),(by first|rfl|(simp;done)|(simp [*];done)),(by first|rfl|(simp;done)|(simp [*];done)),(by first|rfl|(simp;done)|(simp [*];done)),H',⟨by have:=HJ3.out;have:=HK2.out;have:=HJ5.out;have:=UZ.out;have:=HK5.out;omega⟩,⟨by (with_reducible repeat (first|apply Kd.R_alloc|apply Kd.R_drewN|apply Kd.R_drew));exact Kd.R_mono HO_13.out (fun _ hk=>trivial)⟩,⟨by repeat (first|(with_reducible first|exact HB.out|apply Q2|apply Q0|apply Q5)|exact HB.out)⟩⟩
             rw [if_neg c23] at H;have c23b0:decide (Z3<(XV))=false:=decide_eq_false c23;clear c23;simp only [Option.some.injEq,Prod.mk.injEq] at H;obtain ⟨rfl,rfl,rfl,rfl⟩:=H
             go_wp2
             refine bodyPost_ret (G5 (rs:=[.tmp 6,.tmp 7,.tmp 8,.tmp 9]) rfl (by simp) (.tmp (.tmp (.tmp (.tmp .nil))))) rfl ?_
             exact ⟨_,by first|rfl|(simp [Qs,Qt]<;>rfl)|(simp only [← qeF];first|rfl|(simp [Qs,Qt]<;>rfl))|(simp [*,Qs,Qt]<;>rfl),by (with_reducible repeat (first|apply Kd.R_alloc|apply Kd.R_drewN|apply Kd.R_drew));exact HO_13.out,by repeat (first|(with_reducible first|exact HB.out|apply Q2|apply Q0|apply Q5)|exact HB.out)⟩
          replace c21:=Bool.eq_false_iff.mpr c21;subst c21
          have H1:(some (([]:List Int),0,0,7))=some (r1,r2,r3,r4):=by rw [if_neg (show ¬ (false=true) by decide)] at H;exact H
          clear H;have H:=H1;clear H1;simp only [Option.some.injEq,Prod.mk.injEq] at H;obtain ⟨rfl,rfl,rfl,rfl⟩:=H
          go_wp2_with (first|((with_reducible refine Qp (f:=34) rfl ?_);refine Yd (some 70) rfl rfl Try.func34 (by kernel_rfl) rfl #[.int .i64 a2,.int .i64 0,.int .i64 8] rfl (by (try simp only [List.map_toArray,List.map_cons,List.map_nil]);first|done|rfl|(simp only [List.length_drop,List.length_take];rfl)) ?_;(with_reducible refine (Ya.calls a2 0 8 false _ A20.out).mono ?_);rintro e w' ⟨rfl,⟨nd,rfl⟩⟩;refine ⟨_,rfl,?_⟩))
          refine bodyPost_ret (G5 (rs:=[.tmp 6,.tmp 7,.tmp 8,.tmp 9]) rfl (by simp) (.tmp (.tmp (.tmp (.tmp .nil))))) rfl ?_
          exact ⟨_,by first|rfl|(simp [Qs,Qt]<;>rfl)|(simp [*,Qs,Qt]<;>rfl),by first|exact Kd.R_nil _ _ _ _ _|exact Kd.N_nil _ _ _ _ _|exact Kd.V_nil _ _ _ _ _|exact Kd.Q_nil _ _ _ _ _|exact Kd.S_nil _ _ _ _ _,by repeat (first|(with_reducible first|exact HB.out|apply Q2|apply Q0|apply Q5)|exact HB.out)⟩
         replace c19:=Bool.eq_false_iff.mpr c19;subst c19
         have H1:(some (([]:List Int),0,0,94))=some (r1,r2,r3,r4):=by rw [if_neg (show ¬ (false=true) by decide)] at H;exact H
         clear H;have H:=H1;clear H1;simp only [Option.some.injEq,Prod.mk.injEq] at H;obtain ⟨rfl,rfl,rfl,rfl⟩:=H
         go_wp2
         refine bodyPost_ret (G5 (rs:=[.tmp 6,.tmp 7,.tmp 8,.tmp 9]) rfl (by simp) (.tmp (.tmp (.tmp (.tmp .nil))))) rfl ?_
         exact ⟨_,by first|rfl|(simp [Qs,Qt]<;>rfl)|(simp [*,Qs,Qt]<;>rfl),by first|exact Kd.R_nil _ _ _ _ _|exact Kd.N_nil _ _ _ _ _|exact Kd.V_nil _ _ _ _ _|exact Kd.Q_nil _ _ _ _ _|exact Kd.S_nil _ _ _ _ _,by repeat (first|(with_reducible first|exact HB.out|apply Q2|apply Q0|apply Q5)|exact HB.out)⟩
end
end Go.Proofs.Ytmhomdohhihlcaa.P
namespace Go.Proofs.Ytmhomdohhihlcaa.P
open Go.RowKit Go.Maps Go.Proofs.YtmhomdohhihlcaaW.PrintWords Go.Proofs.YtmhomdohhihlcaaW.PrintLast Go.Proofs.YtmhomdohhihlcaaW.PrintMore
theorem qmy:laidOutB Try.prog=true:=by kernel_rfl
theorem Wd:Keyed Try.prog 139:=Keyed.of_law (deep_law_laid qmy (m:=2) (by omega) (of_decide_eq_true (by kernel_rfl)) (by kernel_rfl) (by rw [Try.underlying139]))
theorem qgh:Try.prog.keyType 139=true:=by kernel_rfl
theorem qey:Try.prog.cellsOf 139=1:=by kernel_rfl
theorem qoj:Try.prog.cellsOf 3=1:=by kernel_rfl
theorem qgW:∃ m,Try.prog.types.size=m+1:=⟨Try.prog.types.size-1,by
 have:0<Try.prog.types.size:=of_decide_eq_true (by kernel_rfl)
 omega⟩
theorem qdH {c:Int} (hc:(Lit.int .i64 c).wf=true):keyOf Try.prog 139 (.agg #[.int .i64 c])=some (.string (keyBytes [.int .i64 c])):=by
 obtain ⟨m,hm⟩:=qgW
 have hkt:=qgh
 unfold keyOf
 simp only [Try.underlying139]
 rw [if_pos (by simp [hkt,Value.formed,Try.underlying139,qey]),hm]
 unfold Program.keyLits
 simp only [Try.underlying139,Value.cells]
 rw [if_pos (by rw [qey];exact ⟨rfl,by simp⟩)]
 simp [qoj,Program.keyLits,Try.underlying3,hc]
def QN.l (x:Int):Nat→List Z7→Int→Int→Int × Int
 | _,[],a,b=>(a,b)
 | i,c::cs,a,b=>if (Go.bits .and .i64 (shr .i64 x (i:Int)) 1==1)=true then QN.l x (i+1) cs (wrap64 (a+c.f0)) (wrap64 (b+c.f1)) else QN.l x (i+1) cs a b
def QN.s (cells:List Z7) (x:Int):Int × Int:=QN.l x 0 cells 0 0
theorem qqg (i:Nat):(Go.bits .and .i64 (shr .i64 0 (i:Int)) 1==1)=false:=by
 have:shr .i64 0 (i:Int)=0:=by simp [shr]
 rw [this]
 rfl
theorem qbG:∀ (cells:List Z7) (i:Nat) (a b:Int),QN.l 0 i cells a b=(a,b)
 | [],_,_,_=>rfl
 | c::cs,i,a,b=>by rw [QN.l,if_neg (by rw [qqg];decide)];exact qbG cs _ _ _
def MapI (W:World) (bm:Nat) (cells:List Z7):Prop :=
 ∃ (es:Array MapEntry) (clock:Nat),W.heap[bm]? = some (.map es clock) ∧ ∀ e∈es.toList,∃ c:Int,(Lit.int .i64 c).wf=true∧e.key = .agg #[.int .i64 c]∧e.val = .agg #[.int .i64 (QN.s cells c).1,.int .i64 (QN.s cells c).2]
theorem MapI.lt {W:World} {bm:Nat} {cells:List Z7} (h:MapI W bm cells):bm<W.heap.size:=by
 obtain ⟨es,clock,hb,_⟩:=h
 exact (Array.getElem?_eq_some_iff.1 hb).1
theorem MapI.keep {W W1:World} {bm:Nat} {cells:List Z7} (h:MapI W bm cells) (hk:W1.heap[bm]? = W.heap[bm]?):MapI W1 bm cells:=by
 obtain ⟨es,clock,hb,hs⟩:=h
 exact ⟨es,clock,hk.trans hb,hs⟩
theorem qnb (w:World):(zeroValue 136).run Try.prog w = .ok (.agg #[.int .i64 0,.int .i64 0]) w:=by kernel_rfl
theorem qjs {a b:Int} (h:(Value.agg #[.int .i64 a]) = .agg #[.int .i64 b]):a=b:=by
 injection h with h
 injection h with h
 injection h with h
 injection h
theorem MapI.look {W:World} {bm:Nat} {cells:List Z7} (h:MapI W bm cells) {x:Int} (hx:(Lit.int .i64 x).wf=true) :
  ∃ (b:Bool) (a1 a2:Int),((b=false∧a1=0∧a2=0)∨(b=true∧a1=(QN.s cells x).1∧a2=(QN.s cells x).2)) ∧
   ∀ W1:World,W1.heap[bm]? = W.heap[bm]? → (Instr.lookup 140 (.map (some bm)) (.agg #[.int .i64 x]) true).run Try.prog W1 = .ok (.tuple #[.agg #[.int .i64 a1,.int .i64 a2],.bool b]) W1:=by
 obtain ⟨es,clock,hb,hs⟩:=h
 have hkey:=qdH hx
 have hks:∀ e∈es.toList,∃ l,keyOf Try.prog 139 e.key=some l:=fun e he=>by
  obtain ⟨c,hc,hk,_⟩:=hs e he
  exact ⟨_,by rw [hk];exact qdH hc⟩
 by_cases hex:∃ e∈es.toList,e.key = .agg #[.int .i64 x]
 ·
  refine ⟨true,(QN.s cells x).1,(QN.s cells x).2,.inr ⟨rfl,rfl,rfl⟩,fun W1 hW => ?_⟩
  have hb1:=hW.trans hb
  rcases Wd.find W1 hkey es.toList hks with ⟨h1,h2⟩|⟨j,e0,h1,h2,h3⟩
  ·
   obtain ⟨e,he,hk⟩:=hex
   exact absurd hk (h2 e he)
  ·
   have hm0:e0∈es.toList:=List.mem_of_getElem? h2
   obtain ⟨c,hc,hk,hv⟩:=hs e0 hm0
   have hcx:c=x:=qjs (hk.symm.trans h3)
   subst hcx
   simp [Instr.lookup,run_underlying Try.underlying140,MapKept.run_getObj_map hb1,Wd.check W1 _ hkey,h1,Result.andThen,hv]
 ·
  refine ⟨false,0,0,.inl ⟨rfl,rfl,rfl⟩,fun W1 hW => ?_⟩
  have hb1:=hW.trans hb
  rcases Wd.find W1 hkey es.toList hks with ⟨h1,h2⟩|⟨j,e0,h1,h2,h3⟩
  ·
   simp [Instr.lookup,run_underlying Try.underlying140,MapKept.run_getObj_map hb1,Wd.check W1 _ hkey,h1,Result.andThen,qnb]
  ·
   exact absurd ⟨e0,List.mem_of_getElem? h2,h3⟩ hex
theorem MapI.store {W:World} {bm:Nat} {cells:List Z7} (h:MapI W bm cells) {x:Int} (hx:(Lit.int .i64 x).wf=true) :
  ∃ W1,(Instr.mapUpdate 140 (.map (some bm)) (.agg #[.int .i64 x]) (.agg #[.int .i64 (QN.s cells x).1,.int .i64 (QN.s cells x).2])).run Try.prog W = .ok () W1∧MapI W1 bm cells∧W.grownBy W1 (some bm):=by
 obtain ⟨es,clock,hb,hs⟩:=h
 have hkey:=qdH hx
 have hks:∀ e∈es.toList,∃ l,keyOf Try.prog 139 e.key=some l:=fun e he=>by
  obtain ⟨c,hc,hk,_⟩:=hs e he
  exact ⟨_,by rw [hk];exact qdH hc⟩
 have hgr:∀ o,W.grownBy (ChangeMaps.setBlock W bm o) (some bm):=fun o=>⟨rfl,rfl,rfl,by simp [ChangeMaps.setBlock],fun i _ hi=>ChangeMaps.heap_setBlock_other hb _ (fun e=>hi (by rw [e]))⟩
 rcases Wd.find W hkey es.toList hks with ⟨h1,h2⟩|⟨j,e0,h1,h2,h3⟩
 ·
  refine ⟨ChangeMaps.setBlock W bm (.map (es.push ⟨.agg #[.int .i64 x],.agg #[.int .i64 (QN.s cells x).1,.int .i64 (QN.s cells x).2],clock⟩) (clock+1)),?_,⟨_,_,ChangeMaps.heap_setBlock_same hb _,fun e he => ?_⟩,hgr _⟩
  ·
   simp [Instr.mapUpdate,run_underlying Try.underlying140,MapKept.run_getObj_map hb,Wd.check W false hkey,h1,MapKept.run_setObj_map _ hb,Result.andThen,ChangeMaps.setBlock]
  ·
   simp only [Array.toList_push,List.mem_append,List.mem_singleton] at he
   rcases he with he|rfl
   ·
    exact hs e he
   ·
    exact ⟨x,hx,rfl,rfl⟩
 ·
  have hj:es[j]? = some e0:=by simpa using h2
  refine ⟨ChangeMaps.setBlock W bm (.map (es.modify j (fun e' => { e' with key:=.agg #[.int .i64 x],val:=.agg #[.int .i64 (QN.s cells x).1,.int .i64 (QN.s cells x).2] })) clock),?_,⟨_,_,ChangeMaps.heap_setBlock_same hb _,fun e he => ?_⟩,hgr _⟩
  ·
   simp [Instr.mapUpdate,run_underlying Try.underlying140,MapKept.run_getObj_map hb,Wd.check W false hkey,h1,hj,h3,Wd.stays W hkey,MapKept.run_setObj_map _ hb,Result.andThen,ChangeMaps.setBlock]
  ·
   rw [Array.toList_modify,ChangeMaps.modify_eq_set _ _ _ _ h2] at he
   rcases List.mem_or_eq_of_mem_set he with he|rfl
   ·
    exact hs e he
   ·
    exact ⟨x,hx,rfl,rfl⟩
theorem KV {P:Program} {ops:Array Oper} {rest:List Oper} {o:Oper} {a:Act} {Q:Exit→Act→World→Prop} {W:World} (hg:o.guard=none) (m x:Operand) (t:TypeId) (hop:o.op = .lookup t m x true) {vm vx v:Value} (hm:a.eval m=vm) (hx:a.eval x=vx)
  (hrun:(Instr.lookup t vm vx true).run P W = .ok v W) (h:wpList P ops Q rest (a.put o.dst v) W):wpList P ops Q (o::rest) a W:=by
 refine wpList_plain hg fun K' hK' => ?_
 unfold Oper.wp
 simp [execOp,hop,hm,hx,hrun,Result.andThen]
 exact hK' _ _ h
theorem WJ {P:Program} {ops:Array Oper} {rest:List Oper} {o:Oper} {a:Act} {Q:Exit→Act→World→Prop} {W W1:World} (hg:o.guard=none) (m x y:Operand) (t:TypeId) (hop:o.op = .mapUpdate t m x y) {vm vx v:Value} (hm:a.eval m=vm) (hx:a.eval x=vx) (hy:a.eval y=v)
  (hrun:(Instr.mapUpdate t vm vx v).run P W = .ok () W1) (h:wpList P ops Q rest (a.put o.dst undef) W1):wpList P ops Q (o::rest) a W:=by
 refine wpList_plain hg fun K' hK' => ?_
 unfold Oper.wp
 simp [execOp,hop,hm,hx,hy,hrun,Result.andThen]
 exact hK' _ _ h
theorem qoG (d:Nat) (w:World) (x0 y0:Int) :
  (Op.equalIn (d+2) 139 (.agg #[.int .i64 x0]) (.agg #[.int .i64 y0])).run Try.prog w = .ok (x0==y0) w:=by
 refine qjE Try.underlying139 (by kernel_rfl) ?_
 exact qeA (by rfl) (by go_simp;rfl) (by go_simp;rfl) (by go_simp)
attribute [local go_sem high] qoG
theorem qfp (x:Int) (cells:List Z7) (i:Nat) (h:i<cells.length) (a b:Int):QN.l x i (cells.drop i) a b=if (Go.bits .and .i64 (shr .i64 x (i:Int)) 1==1)=true then QN.l x (i+1) (cells.drop (i+1)) (wrap64 (a+(Zh cells (i:Int)).f0)) (wrap64 (b+(Zh cells (i:Int)).f1)) else QN.l x (i+1) (cells.drop (i+1)) a b:=by
 have e:Zh cells (i:Int)=cells[i]:=by simp [Zh,List.getD_eq_getElem?_getD,List.getElem?_eq_getElem h]
 rw [List.drop_eq_getElem_cons h,e]
 rfl
set_option maxHeartbeats 4000000 in
set_option maxRecDepth 100000 in
theorem qaw.calls (A:Option Addr) (n c bm:Nat) (cells:List Z7) (x:Int) (w:World) (hr:Kd.C UA w A cells.length cells) (hc:cells.length≤c) (hx:(Lit.int .i64 x).wf=true) (hm:MapI w bm cells) :
  Calls Try.prog 91 #[.agg #[.slice A cells.length c,.map (some bm)],.agg #[.int .i64 x]] w fun e w' =>
   e = .returned (.agg #[.int .i64 (QN.s cells x).1,.int .i64 (QN.s cells x).2])∧MapI w' bm cells∧Kept w w' (fun k=>k=bm)∧Below bm w w':=by
 obtain ⟨b,a1,a2,hcase,hrun⟩:=hm.look hx
 have qnW:=Try.underlying142
 have qnV:=Try.underlying139
 have qj4:=Try.underlying136
 have hlt:=hm.lt
 cases b with
 | true =>
  obtain ⟨rfl,rfl⟩:a1=(QN.s cells x).1∧a2=(QN.s cells x).2:=by simpa using hcase
  have HR:=Q1.mk hrun
  clear hrun hcase
  obtain ⟨s1,hs1⟩:∃ s1,(QN.s cells x).1=s1:=⟨_,rfl⟩
  obtain ⟨s2,hs2⟩:∃ s2,(QN.s cells x).2=s2:=⟨_,rfl⟩
  rw [hs1,hs2] at HR ⊢
  go_enter Try.func91,Try.ntmps91
  go_wp2_with (at_lookup;refine KV rfl _ _ 140 rfl rfl rfl (HR.out _ ?hw) ?_;(case hw=>exact (Q2 (Q2 (Q2 (Below.refl w.heap.size w) _) _) _).block bm hlt))
  refine bodyPost_ret (v:=.agg #[.int .i64 s1,.int .i64 s2]) (by simp [results,Try.results91,go_sem]) rfl ⟨rfl,?_⟩
  have hB:=Q2 (Q2 (Q2 (Q2 (Below.refl w.heap.size w) (.cells #[.slice A cells.length c,.map (some bm)] 142)) (.cells #[.int .i64 x] 139)) (.cells #[.int .i64 s1,.int .i64 s2] 136)) (.cells #[.int .i64 s1,.int .i64 s2] 136)
  exact ⟨hm.keep (hB.block bm hlt),Kept.of_below hB _,hB.mono (by omega)⟩
 | false =>
  obtain ⟨rfl,rfl⟩:a1=0∧a2=0:=by simpa using hcase
  have HR:=Q1.mk hrun
  have HM:=Q1.mk hm
  clear hrun hcase hm
  by_cases hx0:x=0
  ·
   subst hx0
   have hs1:(QN.s cells 0).1=0:=by rw [QN.s,qbG]
   have hs2:(QN.s cells 0).2=0:=by rw [QN.s,qbG]
   rw [hs1,hs2]
   go_enter Try.func91,Try.ntmps91
   go_wp2_with (at_lookup;refine KV rfl _ _ 140 rfl rfl rfl (HR.out _ ?hw) ?_;(case hw=>exact (Q2 (Q2 (Q2 (Below.refl w.heap.size w) _) _) _).block bm hlt))
   refine bodyPost_ret (v:=.agg #[.int .i64 0,.int .i64 0]) (by simp [results,Try.results91,go_sem]) rfl ⟨rfl,?_⟩
   have hB:=Q2 (Q2 (Q2 (Q2 (Below.refl w.heap.size w) (.cells #[.slice A cells.length c,.map (some bm)] 142)) (.cells #[.int .i64 0] 139)) (.cells #[.int .i64 0,.int .i64 0] 136)) (.cells #[.int .i64 0,.int .i64 0] 136)
   exact ⟨HM.out.keep (hB.block bm hlt),Kept.of_below hB _,hB.mono (by omega)⟩
  ·
   have hxb:(x==0)=false:=by simpa using hx0
   have HRd:=Q1.mk hr
   have hmx:cells.length≤9223372036854775807:=hr.2.1
   clear hr
   obtain ⟨sm,hsm⟩:∃ sm,QN.s cells x=sm:=⟨_,rfl⟩
   have HSM:=Q1.mk hsm
   rw [hsm]
   clear hsm
   go_enter Try.func91,Try.ntmps91
   go_wp2_with (at_lookup;refine KV rfl _ _ 140 rfl rfl rfl (HR.out _ ?hw) ?_;(case hw=>exact (Q2 (Q2 (Q2 (Below.refl w.heap.size w) _) _) _).block bm hlt))
   go_loopg [26] cells.length (fun d v26 wr => ∃ (i:Nat),v26 = .int .i64 (i:Int)∧Q1 (i+d=cells.length)∧Q1 (∃ a b,wr.heap[w.heap.size+1+1+1]? = some (.cells #[.int .i64 a,.int .i64 b] 136 (0,0))∧QN.l x i (cells.drop i) a b=sm) ∧
    Q1 (wr.heap[w.heap.size]? = some (.cells #[.slice A cells.length c,.map (some bm)] 142 (0,0))∧wr.heap[w.heap.size+1]? = some (.cells #[.int .i64 x] 139 (0,0))∧wr.heap[w.heap.size+1+1]? = some (.cells #[.int .i64 0,.int .i64 0] 136 (0,0)))∧Q1 (Below w.heap.size w wr))
   case atStart =>
    refine ⟨0,rfl,⟨by omega⟩,⟨0,0,?_,HSM.out⟩,⟨?_,?_,?_⟩,⟨Q2 (Q2 (Q2 (Q2 (Below.refl w.heap.size w) _) _) _) _⟩⟩
    ·
     have:=World.alloc_heap_new (((w.alloc (.cells #[.slice A cells.length c,.map (some bm)] 142)).alloc (.cells #[.int .i64 x] 139)).alloc (.cells #[.int .i64 0,.int .i64 0] 136)) (.cells #[.int .i64 0,.int .i64 0] 136)
     rwa [World.size_alloc,World.size_alloc,World.size_alloc] at this
    ·
     exact Q3 (Q3 (Q3 (World.alloc_heap_new w _) _) _) _
    ·
     refine Q3 (Q3 ?_ _) _;have:=World.alloc_heap_new (w.alloc (.cells #[.slice A cells.length c,.map (some bm)] 142)) (.cells #[.int .i64 x] 139)
     rwa [World.size_alloc] at this
    ·
     refine Q3 ?_ _;have:=World.alloc_heap_new ((w.alloc (.cells #[.slice A cells.length c,.map (some bm)] 142)).alloc (.cells #[.int .i64 x] 139)) (.cells #[.int .i64 0,.int .i64 0] 136)
     rwa [World.size_alloc,World.size_alloc] at this
   case round =>
    obtain ⟨i,rfl,HD,HN,HK,HB⟩:=hrel;obtain ⟨a,b,hn,hl⟩:=HN.out;obtain ⟨hb0,hb1,hb2⟩:=HK.out;have qzv:wr.cell? ⟨w.heap.size,0,none⟩=some (.slice A cells.length c):=(Q8 hb0 0).trans rfl;have qzw:wr.cell? ⟨w.heap.size,1,none⟩=some (.map (some bm)):=(Q8 hb0 1).trans rfl;have hc1:wr.cell? ⟨w.heap.size+1,0,none⟩=some (.int .i64 x):=(Q8 hb1 0).trans rfl;have qzx:wr.cell? ⟨w.heap.size+1+1,0,none⟩=some (.int .i64 0):=(Q8 hb2 0).trans rfl;have hc21:wr.cell? ⟨w.heap.size+1+1,1,none⟩=some (.int .i64 0):=(Q8 hb2 1).trans rfl;have qzB:=Q9 hb2 0;have qzC:=Q9 hb2 1;have qCt:wr.cell? ⟨w.heap.size+1+1+1,0,none⟩=some (.int .i64 a):=(Q8 hn 0).trans rfl;have hc31:wr.cell? ⟨w.heap.size+1+1+1,1,none⟩=some (.int .i64 b):=(Q8 hn 1).trans rfl;have qCB:=Q9 hn 0;have qCC:=Q9 hn 1;have hlw:=QL hn;have hbx:∃ W,W=wr:=⟨_,rfl⟩;have HN':=Q1.mk hn;have HL:=Q1.mk hl;have HB0:=Q1.mk hb0;have HB1:=Q1.mk hb1;have HB2:=Q1.mk hb2;clear hn hl hb0 hb1 hb2 hbx HN HK
    by_cases hi:i<cells.length
    ·
     obtain ⟨d,rfl⟩:∃ d,gk=d+1:=⟨gk-1,by have:=HD.out;omega⟩;obtain ⟨ad,ea,hx0',qj5⟩:=UF HRd.out (i:Int) (by omega) (by omega);subst ea;replace hx0':=(HB.out.cell (World.block_lt_of_cell? w _ hx0')).trans hx0';replace qj5:=(HB.out.cell (World.block_lt_of_cell? w _ qj5)).trans qj5;rw [Int.toNat_natCast] at hx0' qj5;have hst:=qfp x cells i hi a b;obtain ⟨ji4,qcm⟩:∃ j_:Int,(shr .i64 x (i:Int))=j_:=⟨_,rfl⟩;rw [qcm] at hst;have hji4_:(x / 2 ^ min ((i:Int)).toNat 64)=ji4:=qcm;have hji4z:(i:Int)≤64→(x / 2 ^ ((i:Int)).toNat)=ji4:=qcQ qcm;rw [Int.toNat_natCast] at hji4_ hji4z;clear qcm;obtain ⟨e0,he0⟩:∃ e0,(Zh cells (i:Int)).f0=e0:=⟨_,rfl⟩;obtain ⟨e1,he1⟩:∃ e1,(Zh cells (i:Int)).f1=e1:=⟨_,rfl⟩;rw [he0,he1] at hst;rw [he0] at hx0';rw [he1] at qj5;clear he0 he1;have hBa:=Q2 (Below.refl wr.heap.size wr) (.cells #[.int .i64 e0,.int .i64 e1] 136);have HBa:=Q1.mk hBa;have ha1:(wr.alloc (.cells #[.int .i64 e0,.int .i64 e1] 136)).cell? ⟨w.heap.size+1,0,none⟩=some (.int .i64 x):=(Q8 (Qf HB1.out hBa) 0).trans rfl;have qCm:(wr.alloc (.cells #[.int .i64 e0,.int .i64 e1] 136)).cell? ⟨w.heap.size+1+1+1,0,none⟩=some (.int .i64 a):=(Q8 (Qf HN'.out hBa) 0).trans rfl;have qCn:(wr.alloc (.cells #[.int .i64 e0,.int .i64 e1] 136)).cell? ⟨w.heap.size+1+1+1,1,none⟩=some (.int .i64 b):=(Q8 (Qf HN'.out hBa) 1).trans rfl;have qAy:=Q9 (Qf HN'.out hBa) 0;have qAz:=Q9 (Qf HN'.out hBa) 1;clear hBa qzv qzw qzx hc21 qzB qzC
     by_cases hbit:(Go.bits .and .i64 ji4 1==1)=true
     ·
      rw [if_pos hbit] at hst;have HL2:=Q1.mk (hst.symm.trans HL.out);clear hst
      go_wp2
      go_roundg d
      case measure=>omega
      case rel =>
       refine ⟨i+1,by simp,⟨by have:=HD.out;omega⟩,⟨_,_,Q3 (Qv (Qv HN'.out 0 _ rfl) 1 _ rfl) _,HL2.out⟩,⟨?_,?_,?_⟩,⟨Q2 (Q7 (Q7 HB.out (by omega)) (by omega)) _⟩⟩
       ·
        exact Q3 (Qm (Qm HB0.out (p:=⟨w.heap.size+1+1+1,0,none⟩) (by simp;omega) _) (p:=⟨w.heap.size+1+1+1,1,none⟩) (by simp;omega) _) _
       ·
        exact Q3 (Qm (Qm HB1.out (p:=⟨w.heap.size+1+1+1,0,none⟩) (by simp) _) (p:=⟨w.heap.size+1+1+1,1,none⟩) (by simp) _) _
       ·
        exact Q3 (Qm (Qm HB2.out (p:=⟨w.heap.size+1+1+1,0,none⟩) (by simp) _) (p:=⟨w.heap.size+1+1+1,1,none⟩) (by simp) _) _
     ·
      replace hbit:=Bool.eq_false_iff.mpr hbit;rw [if_neg (by rw [hbit];decide)] at hst;have HL2:=Q1.mk (hst.symm.trans HL.out);clear hst
      go_wp2
      go_roundg d
      case measure=>omega
      case rel =>
       exact ⟨i+1,by simp,⟨by have:=HD.out;omega⟩,⟨_,_,Q3 HN'.out _,HL2.out⟩,⟨Q3 HB0.out _,Q3 HB1.out _,Q3 HB2.out _⟩,⟨Q2 HB.out _⟩⟩
    ·
     have hil:i=cells.length:=by have:=HD.out;omega
     subst hil
     have hfin:(a,b)=sm:=by
      have h5:=HL.out;rw [List.drop_length] at h5
      exact h5
     have qyw:=Q1.mk (show QN.s cells x=(a,b) by rw [hfin];exact HSM.out);subst hfin;clear HL HSM;obtain ⟨W1,qj1,hm1,hg1⟩:=(HM.out.keep (HB.out.block bm hlt)).store hx;rw [qyw.out] at qj1
     have hne:∀ k,w.heap.size≤k→some k≠some bm:=fun k hk e=>by injection e with e;omega
     have kp:∀ {g:Nat} {o:Obj},w.heap.size≤g→wr.heap[g]? = some o→W1.heap[g]? = some o:=fun {g o} hg ho=>(hg1.block g (Array.getElem?_eq_some_iff.1 ho).1 (hne g hg)).trans ho
     have qCy:W1.cell? ⟨w.heap.size+1+1+1,0,none⟩=some (.int .i64 a):=(Q8 (kp (by omega) HN'.out) 0).trans rfl;have hd31:W1.cell? ⟨w.heap.size+1+1+1,1,none⟩=some (.int .i64 b):=(Q8 (kp (by omega) HN'.out) 1).trans rfl;have qCw:W1.cell? ⟨w.heap.size+1+1,0,none⟩=some (.int .i64 0):=(Q8 (kp (by omega) HB2.out) 0).trans rfl;have qCx:W1.cell? ⟨w.heap.size+1+1,1,none⟩=some (.int .i64 0):=(Q8 (kp (by omega) HB2.out) 1).trans rfl;have qAB:=Q9 (kp (by omega) HB2.out) 0;have qAC:=Q9 (kp (by omega) HB2.out) 1;have HG1:=Q1.mk hg1;have HM1:=Q1.mk hm1;have HRU:=Q1.mk qj1;have HF2:=Q1.mk (kp (by omega) HB2.out);clear hg1 hm1 qj1 kp hne
     go_wp2_with (at_mapUpdate;refine WJ rfl _ _ _ 140 rfl rfl rfl rfl HRU.out ?_)
     refine bodyPost_ret (v:=.agg #[.int .i64 a,.int .i64 b]) ?_ rfl ⟨rfl,?_⟩
     ·
      refine (results_cell_row rfl _ _ (w.heap.size+1+1) 136 #[.int .i64 a,.int .i64 b] (0,0) _ rfl (Qv (Qv HF2.out 0 _ rfl) 1 _ rfl) Try.underlying136 rfl (by kernel_rfl))
     ·
      have hK1:Kept w W1 (fun k=>k=bm):=(Kept.of_below HB.out _).of_grown HG1.out (fun k e => .inl (by cases e;rfl));have hB1:Below bm w W1:=(HB.out.mono (by omega)).grown HG1.out (by omega) (fun k e=>by cases e;omega);refine ⟨HM1.out.keep ?_,?_,?_⟩
      ·
       exact (Below.heap_setCell _ _ _ bm (by simp;omega)).trans (Below.heap_setCell _ _ _ bm (by simp;omega))
      ·
       exact (hK1.setCell (.inr (by simp;omega)) _).setCell (.inr (by simp;omega)) _
      ·
       exact Below.setCell (Below.setCell hB1 (p:=⟨w.heap.size+1+1,0,none⟩) (by show bm≤w.heap.size+1+1;omega) _) (p:=⟨w.heap.size+1+1,1,none⟩) (by show bm≤w.heap.size+1+1;omega) _
end Go.Proofs.Ytmhomdohhihlcaa.P
