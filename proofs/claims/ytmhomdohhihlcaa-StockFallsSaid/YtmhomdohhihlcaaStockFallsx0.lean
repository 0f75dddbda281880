/- What the statement StockFalls leans on, part 1 of 6: contracts of the program's functions; conditions: none. -/
import Derived.Below
import Derived.Deep.Draws
import Derived.Deep.AppendLies
import Derived.Maps.AppendAt
import Derived.OwnWalk
import Derived.Laws.BytesArg
import Derived.Laws.MakeOwn
import Derived.Laws.OwnMore
import Derived.Deep.OwnRows
import Derived.Tactics
import Derived.Lib.ConvBytes
import Derived.Laws.Slices
import Derived.WalkKit
import Derived.KernelRfl
import Derived.RowKit3
import Derived.Deep.LoopGhost
import Derived.Deep.QuietTactic
import Derived.BigQuiet
import Derived.WideLaws
import Derived.Deep.DeepCutAuto
import Derived.Deep.CutBlock
import Derived.Deep.RegionHeld3
import Derived.Laws.Rows
import Derived.Lib.AppendStr
import Derived.ArgAppend
import Derived.Laws.IdiomCopy
import Derived.RowKit
import Derived.OrdersHeld
import Derived.Laws.BitsLemmas
import Derived.Laws.StructEq
import Derived.Test.YtmhomdohhihlcaaProg
import Derived.Laws.CopyOwn
import Derived.Deep.RegionLaw
import Derived.StillTailTactics
import Derived.Deep.RegionWith
import Derived.BigRegion
import Derived.Outline
set_option linter.unusedVariables false
set_option linter.unusedSimpArgs false
set_option linter.constructorNameAsVariable false
set_option linter.unusedSectionVars false
namespace Go.Proofs.YtmhomdohhihlcaaW.PrintWords
open Go.RowKit
structure Q0 (p:Prop):Prop where mk::(out:p)
structure Z3 (w w':World):Prop where mk::(out:∃ n,w'=w.drewN n)
theorem Z3.refl (w:World):Z3 w w:=⟨⟨0,rfl⟩⟩
theorem Z3.step {w w':World} (h:Z3 w w') (n:Nat):Z3 w (w'.drewN n):=by
 obtain ⟨m,rfl⟩:=h
 exact ⟨⟨m+n,World.drewN_drewN ..⟩⟩
def rd (xs:List Int) (i:Int):Int:=xs.getD i.toNat 0
def bt (s:ByteArray) (i:Int):Int:=if h:i.toNat<s.size then ((s[i.toNat]'h).toNat:Int) else 0
theorem Q4 {w W:World} (h:Below w.heap.size w W) (o:Obj):Below w.heap.size w (W.alloc o):=h.alloc h.size o
theorem YA {B:Nat} {w W:World} (h:Below B w W):Below B w W.drew:=⟨h.os,h.tape,h.output,h.size,h.block⟩
theorem Q1 {B:Nat} {w W:World} (h:Below B w W) (n:Nat):Below B w (W.drewN n):=⟨h.os,h.tape,h.output,h.size,h.block⟩
theorem qhO {B:Nat} {w w1 w2:World} (h:Below B w w1) (hB:B≤w1.heap.size) (k:Below w1.heap.size w1 w2):Below B w w2 :=
 h.trans ⟨k.os,k.tape,k.output,k.size,fun i hi=>k.block i (Nat.lt_of_lt_of_le hi hB)⟩
theorem qdP {w w1:World} (h:Below w.heap.size w w1) (row:Option Nat):w.grownBy w1 row:=⟨h.os,h.tape,h.output,h.size,fun i hi _=>h.block i hi⟩
theorem qee {w w1:World} (h:Below w.heap.size w w1) {a:Addr} {v:Value} (hc:w.cell? a=some v):w1.cell? a=some v:=(h.cell (World.block_lt_of_cell? w a hc)).trans hc
theorem KW (g j:Nat):(⟨g,0,none⟩:Addr).add j=⟨g,j,none⟩:=by unfold Addr.add;split<;>simp_all
def qsv (w:World) (k:IntKind) (A:Option Addr) (n:Nat) (xs:List Int):Prop :=
 xs.length=n∧n≤9223372036854775807∧(0<n → ∃ ad,A=some ad ∧ ∀ j,j<n→w.cell? (ad.add j)=some (.int k (xs.getD j 0)))
theorem qoQ (W:World) (base:Nat) (e:TypeId) (size:Nat):W.ownsRow base e size (.slice none 0 0) 0 []:=⟨by simp,.inl ⟨rfl,rfl⟩⟩
theorem Xu {w:World} {base:Nat} {e:TypeId} {size n:Nat} {v:Value} {xs:List Value} (h:w.ownsRow base e size v n xs) (k:Nat) (hk:v.ownBlock=some k):base≤k:=by
 rcases h.2 with ⟨rfl,_⟩|⟨g,cap,cur,rfl,hb,_⟩
 ·
  simp [Value.ownBlock] at hk
 have:g=k:=by simpa [Value.ownBlock] using hk
 omega
theorem qmL {w:World} {base:Nat} {e:TypeId} {size n:Nat} {v:Value} {xs:List Value} (h:w.ownsRow base e size v n xs) (k:Nat) (hk:v.ownBlock=some k):k<w.heap.size:=by
 rcases h.2 with ⟨rfl,_⟩|⟨g,cap,cur,rfl,hb,hh,_⟩
 ·
  simp [Value.ownBlock] at hk
 have:g=k:=by simpa [Value.ownBlock] using hk
 subst this
 exact (Array.getElem?_eq_some_iff.1 hh).1
theorem qoX {w w1:World} {base:Nat} {e:TypeId} {size n:Nat} {v:Value} {xs:List Value} (h:w.ownsRow base e size v n xs) (hb:Below w.heap.size w w1):w1.ownsRow base e size v n xs :=
 h.kept (qdP hb none) (by cases v.ownBlock<;>simp)
theorem qk6 {w:World} {base n:Nat} {e:TypeId} {size:Nat} {v:Value} {xs:List Value} (h:w.ownsRow base e size v n xs):∃ A c,v = .slice A n c:=by
 rcases h.2 with ⟨rfl,rfl⟩|⟨g,cap,cur,rfl,_⟩
 ·
  exact ⟨none,0,rfl⟩
 exact ⟨_,cap,rfl⟩
def bytesOf (s:ByteArray):List Int:=s.data.toList.map fun b=>(b.toNat:Int)
def LeO {α:Type} (a b:Option α):Prop:=∀ r,a=some r→b=some r
theorem LeO.refl {α:Type} (a:Option α):LeO a a:=fun _ h=>h
theorem LeO.none {α:Type} (b:Option α):LeO Option.none b:=fun _ h=>by cases h
theorem LeO.ite {α:Type} {c:Prop} [Decidable c] {a a' b b':Option α} (h:LeO a a') (k:LeO b b'):LeO (if c then a else b) (if c then a' else b'):=by
 split
 ·
  exact h
 exact k
theorem LeO.bind {α β:Type} {a a':Option α} {f f':α→Option β} (h:LeO a a') (k:∀ x,LeO (f x) (f' x)):LeO (a.bind f) (a'.bind f'):=by
 intro r hr
 obtain ⟨x,hx,hf⟩:=Option.bind_eq_some_iff.1 hr
 exact Option.bind_eq_some_iff.2 ⟨x,h x hx,k x r hf⟩
theorem LeO.map {α β:Type} {a a':Option α} (f:α→β) (h:LeO a a'):LeO (a.map f) (a'.map f):=by
 intro r hr
 obtain ⟨x,hx,hf⟩:=Option.map_eq_some_iff.1 hr
 exact Option.map_eq_some_iff.2 ⟨x,h x hx,hf⟩
def Reps {α:Type} (R:α→List Value→Prop) (size:Nat) (ps:List α) (cs:List Value):Prop :=
 cs.length=ps.length*size ∧ ∀ j p,ps[j]? = some p→R p ((cs.drop (j*size)).take size)
theorem Reps.none {α:Type} (R:α→List Value→Prop) (size:Nat):Reps R size [] []:=⟨by simp,fun j p h=>by simp at h⟩
theorem Reps.snoc {α:Type} {R:α→List Value→Prop} {size:Nat} {ps:List α} {cs c:List Value} {p:α} (h:Reps R size ps cs) (hp:R p c) (hc:c.length=size):Reps R size (ps++[p]) (cs++c):=by
 refine ⟨by rw [List.length_append,h.1,hc,List.length_append,List.length_singleton,Nat.add_mul,Nat.one_mul],fun j q hq => ?_⟩
 rcases Nat.lt_or_ge j ps.length with hj|hj
 ·
  rw [List.getElem?_append_left hj] at hq
  have h1:j*size+size≤cs.length:=by rw [h.1,← Nat.succ_mul];exact Nat.mul_le_mul_right _ hj
  have h2:=h.2 j q hq
  rw [List.drop_append_of_le_length (by omega),List.take_append_of_le_length (by rw [List.length_drop];omega)]
  exact h2
 have hj':j=ps.length:=by
  have:=(List.getElem?_eq_some_iff.1 hq).1
  rw [List.length_append,List.length_singleton] at this
  omega
 subst hj'
 have hq':p=q:=by simpa using hq
 subst hq'
 rw [← h.1,List.drop_left,← hc,List.take_length]
 exact hp
theorem Reps.imp_ {α:Type} {R R':α→List Value→Prop} {size:Nat} {ps:List α} {cs:List Value} (h:Reps R size ps cs) (hR:∀ p c,R p c→R' p c):Reps R' size ps cs:=⟨h.1,fun j p hj=>hR _ _ (h.2 j p hj)⟩
def Ge {α:Type} (R:α→List Value→Prop) (size:Nat) (w:World) (A:Option Addr) (n:Nat) (ps:List α):Prop :=
 ps.length=n∧n≤9223372036854775807∧(0<n → ∃ ad,A=some ad ∧ ∀ j p,ps[j]? = some p → ∃ c,c.length=size∧R p c ∧ ∀ i u,c[i]? = some u→w.cell? (ad.add (j*size+i))=some u)
theorem Ge.get_ {α:Type} {R:α→List Value→Prop} {size:Nat} {w:World} {A:Option Addr} {n:Nat} {ps:List α} (h:Ge R size w A n ps) (d:α) (i:Int) (h0:0≤i) (h1:i<n) :
  ∃ ad c,A=some ad∧c.length=size∧R (ps.getD i.toNat d) c ∧ ∀ j u,c[j]? = some u→w.cell? (ad.add (i.toNat*size+j))=some u:=by
 obtain ⟨ad,e,hc⟩:=h.2.2 (by omega)
 have hl:i.toNat<ps.length:=by have:=h.1;omega
 obtain ⟨c,hs,hr,hcell⟩:=hc i.toNat _ (List.getElem?_eq_getElem hl)
 refine ⟨ad,c,e,hs,?_,hcell⟩
 rw [List.getD_eq_getElem?_getD,List.getElem?_eq_getElem hl]
 exact hr
theorem Ge.imp_ {α:Type} {R R':α→List Value→Prop} {size:Nat} {w w1:World} {A:Option Addr} {n:Nat} {ps:List α} (h:Ge R size w A n ps) (hb:Below w.heap.size w w1) (hR:∀ p c,R p c→R' p c):Ge R' size w1 A n ps :=
 ⟨h.1,h.2.1,fun hn=>by
  obtain ⟨ad,e,hc⟩:=h.2.2 hn
  refine ⟨ad,e,fun j p hj => ?_⟩
  obtain ⟨c,hs,hr,hcell⟩:=hc j p hj
  exact ⟨c,hs,hR _ _ hr,fun i u hu=>qee hb (hcell i u hu)⟩⟩
theorem qed {α:Type} {R:α→List Value→Prop} {w:World} {base n size:Nat} {e:TypeId} {v:Value} {ps:List α} {cs:List Value} (h:w.ownsRow base e size v n cs) (hR:Reps R size ps cs) (hn:ps.length=n) :
  ∃ A c,v = .slice A n c∧Ge R size w A n ps:=by
 rcases Nat.eq_zero_or_pos n with h0|h0
 ·
  rcases h.2 with ⟨rfl,rfl⟩|⟨g,cap,cur,rfl,_⟩
  ·
   exact ⟨none,0,rfl,hn,by omega,fun hp=>absurd hp (by omega)⟩
  exact ⟨_,cap,rfl,hn,by omega,fun hp=>absurd hp (by omega)⟩
 obtain ⟨g,cap,rfl,_,_⟩:=h.form h0
 have hm:n≤9223372036854775807:=by
  rcases h.2 with ⟨_,h1⟩|⟨g',cap',cur,he,_,_,h1,h2,_⟩
  ·
   omega
  simp only [maxLen] at h2
  omega
 refine ⟨_,cap,rfl,hn,hm,fun _=>⟨_,rfl,fun j p hj=>⟨(cs.drop (j*size)).take size,?_,hR.2 j p hj,fun i u hu => ?_⟩⟩⟩
 ·
  have hjl:=(List.getElem?_eq_some_iff.1 hj).1
  have h1:j*size+size≤cs.length:=by rw [hR.1,← Nat.succ_mul];exact Nat.mul_le_mul_right _ hjl
  rw [List.length_take,List.length_drop]
  omega
 refine h.cells (g:=g) rfl _ u ?_
 rw [List.getElem?_take] at hu
 split at hu
 ·
  rw [List.getElem?_drop] at hu
  exact hu
 cases hu
theorem KV (ad:Addr) (m j:Nat) (hj:0<j):ad.add (m+j)=⟨(ad.add m).block,(ad.add m).off+j,none⟩:=by
 unfold Addr.add
 by_cases hm:m=0
 ·
  subst hm
  simp [Nat.ne_of_gt hj]
 simp [hm,Nat.add_assoc]
section
variable {P:Program} {ops:Array Oper} {rest:List Oper} {o:Oper} {a:Act} {Q:Exit→Act→World→Prop}
theorem qaH {w0 W:World} (base:Nat) (hgd:o.guard=none) (s x:Operand) (t e:TypeId) (z:Value) (size bytes:Nat)
  (ho:o.op = .call { callee:=.builtin .append,args:=#[s,x],argTypes:=#[t,t] })
  (ht:P.underlying t=some (.slice e)) (hinfo:(P.info? e).map (fun i=>(i.zero,i.size,i.bytes))=some (some z,size,bytes)) (hz:z.cells.size=size) (hs0:0<size) (hb0:0<bytes)
  (v:Value) (n:Nat) (xs ys:List Value) (hs:a.eval s=v) (hx:a.eval x = .slice (some ⟨W.heap.size,0,none⟩) 1 1) (hys:ys.length=size) (h1:∀ u∈ys,u.oneCell'=true)
  (HO:W.ownsRow base e size v n xs) (HB:Below base w0 W) (hbase:base≤W.heap.size) (hl:(n+1)*bytes≤140737488355328)
  (h:∀ v1 w1,w1.ownsRow base e size v1 (n+1) (xs++ys)→Below base w0 w1→W.grownBy w1 v.ownBlock→(v1.ownBlock=v.ownBlock ∨ ∃ b,v1.ownBlock=some b∧W.heap.size≤b)→wpList P ops Q rest (a.put o.dst v1) w1) :
  wpList P ops Q (o::rest) a (W.alloc (.cells ys.toArray e)):=by
 obtain ⟨i0,hi,hzz⟩:=Option.map_eq_some_iff.1 hinfo
 simp only [Prod.mk.injEq] at hzz
 obtain ⟨hz0,hz1,hz2⟩:=hzz
 have hlen:n+1≤140737488355328:=Nat.le_trans (Nat.le_mul_of_pos_right _ hb0) hl
 refine wpList_append_own_at (W.alloc (.cells ys.toArray e)) hgd s x t ho base e i0 z size bytes ht hi hz0 hz1 hz2 hz hs0 v n xs hs (HO.alloc _) ⟨W.heap.size,0,none⟩ 1 1 ys hx (by rw [hys];simp)
  (by simpa using World.news_of_block (cs:=ys.toArray) (t:=e) (fr:=(0,0)) (heap_alloc_new W (.cells ys.toArray e))) h1 (by simp only [maxLen];omega) hl (by simp;omega) ?_
 intro v1 w1 hown hg _ hat
 refine h v1 w1 hown ((HB.alloc hbase _).grown hg (by simp;omega) (Xu HO)) (World.grownBy.trans (World.grownBy_alloc W _ _) hg) ?_
 rcases hat with hat|hat
 ·
  exact .inl hat
 exact .inr ⟨_,hat,by simp⟩
end
theorem qro {w:World} {base:Nat} {e t:TypeId} {size n g:Nat} {v:Value} {xs:List Value} {cs:Array Value} (h:w.ownsRow base e size v n xs) (hg:w.heap[g]? = some (.cells cs t (0,0))) (hne:e≠t):some g≠v.ownBlock:=by
 rcases h.2 with ⟨rfl,_⟩|⟨g',cap,cur,rfl,_,hh,_⟩
 ·
  simp [Value.ownBlock]
 intro he
 have:g=g':=by simpa [Value.ownBlock] using he
 subst this
 rw [hg] at hh
 injection hh with hh
 injection hh with _ ht
 exact hne ht.symm
theorem qjt {w:World} {g:Nat} {t:TypeId} {cs:Array Value} (h:w.heap[g]? = some (.cells cs t (0,0))) (i:Nat) (u:Value):(w.setCell ⟨g,i,none⟩ u).heap[g]? = some (.cells (cs.setIfInBounds i u) t (0,0)):=by
 simp [World.setCell,Array.getElem?_modify,h]
theorem Qu {w:World} {g:Nat} {t:TypeId} {cs:Array Value} (h:w.heap[g]? = some (.cells cs t (0,0))) {p:Addr} (hp:g≠p.block) (u:Value):(w.setCell p u).heap[g]? = some (.cells cs t (0,0)):=(Below.heap_setCell w p u g hp).trans h
theorem QY {w:World} {g:Nat} {o:Obj} (h:w.heap[g]? = some o):g<w.heap.size:=(Array.getElem?_eq_some_iff.1 h).1
theorem Qb {w:World} {g:Nat} {t:TypeId} {cs:Array Value} (h:w.heap[g]? = some (.cells cs t (0,0))) (i:Nat):w.cell? ⟨g,i,none⟩=cs[i]?:=cell_of_row w g i cs t (0,0) h
theorem Qc {w:World} {g:Nat} {t:TypeId} {cs:Array Value} (h:w.heap[g]? = some (.cells cs t (0,0))) (i:Nat):w.frozen? ⟨g,i,none⟩=false:=by simp [World.frozen?,h]
theorem Jv {w w1:World} {g:Nat} {o:Obj} {row:Option Nat} (h:w.heap[g]? = some o) (hg:w.grownBy w1 row) (hne:some g≠row):w1.heap[g]? = some o:=(hg.block g (QY h) hne).trans h
def qns (w w':World) (g:Nat) (row:Option Nat):Prop:=w.heap.size≤w'.heap.size ∧ ∀ i,i<w.heap.size→i≠g→some i≠row→w'.heap[i]? = w.heap[i]?
def Ev {α:Type} (g:Nat→Option α) (r:α):Prop:=∃ K,∀ k,K≤k→g k=some r
theorem Ev.now {α:Type} (r:α):Ev (fun _=>some r) r:=⟨0,fun _ _=>rfl⟩
theorem Ev.rounds {α:Type} {g:Nat→Option α} {r:α} (h:Ev g r):∃ k,g k=some r:=by
 obtain ⟨K,h⟩:=h
 exact ⟨K,h K (Nat.le_refl _)⟩
theorem Ev.bind {α β:Type} {g:Nat→Option α} {f:Nat→α→Option β} {a:α} {r:β} (h:Ev g a) (k:Ev (fun n=>f n a) r):Ev (fun n=>(g n).bind (f n)) r:=by
 obtain ⟨K,h⟩:=h
 obtain ⟨K',k⟩:=k
 refine ⟨max K K',fun n hn => ?_⟩
 have h1:=h n (by omega)
 have h2:=k n (by omega)
 simp only [h1,Option.bind_some]
 exact h2
theorem Ev.step {α:Type} {g f:Nat→Option α} {r:α} (h:∀ k,g (k+1)=f k) (k:Ev f r):Ev g r:=by
 obtain ⟨K,k⟩:=k
 refine ⟨K+1,fun n hn => ?_⟩
 obtain ⟨m,rfl⟩:∃ m,n=m+1:=⟨n-1,by omega⟩
 rw [h]
 exact k m (by omega)
theorem Ev.congr {α:Type} {g f:Nat→Option α} {r:α} (h:∀ k,g k=f k) (k:Ev f r):Ev g r:=by
 obtain ⟨K,k⟩:=k
 exact ⟨K,fun n hn=>(h n).trans (k n hn)⟩
section
variable {P:Program} {ops:Array Oper} {o:Oper} {a:Act} {Q:Exit→Act→World→Prop} {K:Act→World→Prop}
theorem qbU {w0 W:World} (base:Nat) (hw:Region.wanted o (yielded ops a.tmps)=true) (s x:Operand) (t e:TypeId) (z:Value) (size bytes:Nat)
  (ho:o.op = .call { callee:=.builtin .append,args:=#[s,x],argTypes:=#[t,t] })
  (ht:P.underlying t=some (.slice e)) (hinfo:(P.info? e).map (fun i=>(i.zero,i.size,i.bytes))=some (some z,size,bytes)) (hz:z.cells.size=size) (hs0:0<size) (hb0:0<bytes)
  (v:Value) (n:Nat) (xs ys:List Value) (hs:a.eval s=v) (hx:a.eval x = .slice (some ⟨W.heap.size,0,none⟩) 1 1) (hys:ys.length=size) (h1:∀ u∈ys,u.oneCell'=true)
  (HO:W.ownsRow base e size v n xs) (HB:Below base w0 W) (hbase:base≤W.heap.size) (hl:(n+1)*bytes≤140737488355328)
  (h:∀ v1 w1,w1.ownsRow base e size v1 (n+1) (xs++ys)→Below base w0 w1→W.grownBy w1 v.ownBlock→(v1.ownBlock=v.ownBlock ∨ ∃ b,v1.ownBlock=some b∧W.heap.size≤b)→K (a.put o.dst v1) w1) :
  if Region.wanted o (yielded ops a.tmps)=true then Oper.wp P o a (W.alloc (.cells ys.toArray e)) K Q else K (a.put o.dst undef) (W.alloc (.cells ys.toArray e)):=by
 obtain ⟨i0,hi,hzz⟩:=Option.map_eq_some_iff.1 hinfo
 simp only [Prod.mk.injEq] at hzz
 obtain ⟨hz0,hz1,hz2⟩:=hzz
 have hlen:n+1≤140737488355328:=Nat.le_trans (Nat.le_mul_of_pos_right _ hb0) hl
 rw [if_pos hw]
 obtain ⟨v1,w1,hr,hown,hg,_,hat⟩:=run_append_own_at (P:=P) (W.alloc (.cells ys.toArray e)) base t o.type e i0 z size bytes ht hi hz0 hz1 hz2 hz hs0 v n xs (HO.alloc _) ⟨W.heap.size,0,none⟩ 1 1 ys (by rw [hys];simp)
  (by simpa using World.news_of_block (cs:=ys.toArray) (t:=e) (fr:=(0,0)) (heap_alloc_new W (.cells ys.toArray e))) h1 (by simp only [maxLen];omega) hl (by simp;omega)
 unfold Oper.wp execOp
 simp only [ho,resolve,invoke,builtin,Sem.run_bind,Sem.run_pure,Result.andThen_ok,List.map_toArray,List.map_cons,List.map_nil,hs,hx,hr]
 refine h v1 w1 hown ((HB.alloc hbase _).grown hg (by simp;omega) (Xu HO)) (World.grownBy.trans (World.grownBy_alloc W _ _) hg) ?_
 rcases hat with hat|hat
 ·
  exact .inl hat
 exact .inr ⟨_,hat,by simp⟩
end
theorem qaD {w:World} {base base':Nat} {e:TypeId} {size n:Nat} {v:Value} {xs:List Value} (h:w.ownsRow base e size v n xs) (hb:base'≤base):w.ownsRow base' e size v n xs:=by
 obtain ⟨h1,h2⟩:=h
 refine ⟨h1,?_⟩
 rcases h2 with h2|⟨g,cap,cur,rfl,hg,r⟩
 ·
  exact .inl h2
 exact .inr ⟨g,cap,cur,rfl,Nat.le_trans hb hg,r⟩
section
variable {α:Type} {enc:α→Value} {d:α}
def encs (enc:α→Value) (xs:List α):List Value:=xs.map enc
def rdOf (d:α) (xs:List α) (i:Int):α:=xs.getD i.toNat d
theorem qcl (xs:List α):(encs enc xs).length=xs.length:=by simp [encs]
theorem ql9 (xs:List α) (j:Nat) (h:j<xs.length):(encs enc xs)[j]? = some (enc (xs.getD j d)):=by
 simp [encs,List.getElem?_eq_getElem h,List.getD_eq_getElem?_getD]
def Ky (enc:α→Value) (d:α) (w:World) (A:Option Addr) (n:Nat) (xs:List α):Prop :=
 xs.length=n∧n≤9223372036854775807∧(0<n → ∃ ad,A=some ad ∧ ∀ j,j<n→w.cell? (ad.add j)=some (enc (xs.getD j d)))
theorem Ky.at_ {w:World} {A:Option Addr} {n:Nat} {xs:List α} (h:Ky enc d w A n xs) (i:Int) (h0:0≤i) (h1:i<n):∃ ad,A=some ad∧w.cell? (ad.add i.toNat)=some (enc (rdOf d xs i)):=by
 obtain ⟨ad,e,hc⟩:=h.2.2 (by omega)
 exact ⟨ad,e,hc _ (by omega)⟩
theorem Ky.drop_ {w:World} {A:Option Addr} {n c:Nat} {xs:List α} (h:Ky enc d w A n xs) (i:Nat) (hi:i≤n) (hc:n≤c):Ky enc d w (if c=i then A else A.map (·.add i)) (n-i) (xs.drop i):=by
 refine ⟨by rw [List.length_drop,h.1],by have:=h.2.1;omega,fun hp => ?_⟩
 obtain ⟨ad,rfl,hcell⟩:=h.2.2 (by omega)
 rw [if_neg (by omega)]
 refine ⟨ad.add i,rfl,fun j hj => ?_⟩
 have ha:(ad.add i).add j=ad.add (i+j):=by
  unfold Addr.add
  by_cases h1:i=0<;>by_cases h2:j=0<;>simp [h1,h2,Nat.add_assoc]
 rw [ha,hcell (i+j) (by omega)]
 simp [List.getD_eq_getElem?_getD,List.getElem?_drop]
theorem qfB {P:Program} (enc:α→Value) (d:α) (t e:TypeId) (kl:IntKind) {i:TypeInfo} (ht:P.underlying t=some (.slice e)) (hi:P.info? e=some i) (hsz:i.size=1) (A:Option Addr) (n c m:Nat) (hm:m≤n) :
  ∃ A':Option Addr,(∀ W:World,(Instr.slice t (.slice A n c) (some (.int kl (m:Int))) none none).run P W = .ok (.slice A' (n-m) (c-m)) W) ∧
   ∀ (w:World) (xs:List α),n≤c→Ky enc d w A n xs→Ky enc d w A' (n-m) (xs.drop m):=by
 refine ⟨if c=m then A else A.map (·.add m),fun W => ?_,fun w xs hc h=>h.drop_ m hm hc⟩
 have hel:P.elem t=e:=by simp [Program.elem,ht]
 have hu:P.underlying t=some (.slice (P.elem t)):=by rw [hel];exact ht
 rw [run_slice_l W t A n c hu kl (m:Int) (Int.natCast_nonneg _) (by omega),hel]
 simp [sizeOf,typeInfo,hi,hsz,sliced,Result.andThen]
theorem qk5 {W:World} {base g n cap:Nat} {e:TypeId} {xs:List α} (h:W.ownsRow base e 1 (.slice (some ⟨g,0,none⟩) n cap) n (encs enc xs)) (i:Int) (h0:0≤i) (h1:i<n) :
  W.cell? ⟨g,i.toNat,none⟩=some (enc (rdOf d xs i))∧W.frozen? ⟨g,i.toNat,none⟩=false:=by
 have hl:xs.length=n:=by have:=h.1;simp [encs] at this;exact this
 constructor
 ·
  have hc:=h.cells (g:=g) rfl i.toNat _ (ql9 (d:=d) xs i.toNat (by omega))
  rwa [KW] at hc
 rcases h.2 with ⟨h',_⟩|⟨g',cap',cur,h',_,hh,_⟩
 ·
  cases h'
 have:g=g':=by injection h' with h';injection h' with h';injection h' with h'
 subst this
 simp [World.frozen?,hh]
theorem qfz {W:World} {base g n cap:Nat} {e:TypeId} {xs:List α} (h:W.ownsRow base e 1 (.slice (some ⟨g,0,none⟩) n cap) n (encs enc xs)) (i:Int) (x:α) :
  (W.setCell ⟨g,i.toNat,none⟩ (enc x)).ownsRow base e 1 (.slice (some ⟨g,0,none⟩) n cap) n (encs enc (xs.set i.toNat x))∧W.grownBy (W.setCell ⟨g,i.toNat,none⟩ (enc x)) (some g):=by
 have hs:=h.stored i.toNat (enc x)
 have he:(encs enc xs).set i.toNat (enc x)=encs enc (xs.set i.toNat x):=by simp [encs,List.map_set]
 rwa [he] at hs
end
theorem Q2 {w:World} {g:Nat} {o:Obj} (h:w.heap[g]? = some o) (o':Obj):(w.alloc o').heap[g]? = some o:=(Below.heap_alloc w o' g (QY h)).trans h
theorem Q6 {w:World} {g:Nat} {o:Obj} (h:w.heap[g]? = some o):w.drew.heap[g]? = some o:=h
theorem Q3 {w:World} {g:Nat} {o:Obj} (h:w.heap[g]? = some o) (n:Nat):(w.drewN n).heap[g]? = some o:=h
theorem Qp {w w1:World} {g:Nat} {o:Obj} (h:w.heap[g]? = some o) (hb:Below w.heap.size w w1):w1.heap[g]? = some o:=(hb.block g (QY h)).trans h
theorem UA (w:World) (o:Obj):(w.alloc o).heap[w.heap.size]? = some o:=heap_alloc_new w o
section
variable {P:Program}
theorem qaL {fn:Func} {p u:Tmp} {ty:TypeId} (h:fn.results=#[.cell p ty,.tmp u]) (tmps:Array Value) (w:World) (g:Nat) (t:TypeId) (cs:Array Value) (fr:Nat × Nat) (d:TypeDesc)
  (hp:tmps.getD p undef = .pointer (some ⟨g,0,none⟩)) (hg:w.heap[g]? = some (.cells cs t fr))
  (hu:P.underlying ty=some d) (hd:(match d with | .struct _ | .array _ _=>true|_=>false)=true) (hi:(P.info? ty).map (·.size)=some cs.size) :
  (results fn tmps).run P w = .ok (.tuple #[.agg cs,tmps.getD u undef]) w:=by
 have hp':tmps[p]?.getD undef = .pointer (some ⟨g,0,none⟩):=by simpa using hp
 simp [results,h,hp',asAddr,run_loadVar_row w g t ty cs fr d hg hu hd hi]
theorem qiN {fn:Func} {p u:Tmp} {ty:TypeId} (h:fn.results=#[.tmp u,.cell p ty]) (tmps:Array Value) (w:World) (g:Nat) (t:TypeId) (cs:Array Value) (fr:Nat × Nat) (d:TypeDesc)
  (hp:tmps.getD p undef = .pointer (some ⟨g,0,none⟩)) (hg:w.heap[g]? = some (.cells cs t fr))
  (hu:P.underlying ty=some d) (hd:(match d with | .struct _ | .array _ _=>true|_=>false)=true) (hi:(P.info? ty).map (·.size)=some cs.size) :
  (results fn tmps).run P w = .ok (.tuple #[tmps.getD u undef,.agg cs]) w:=by
 have hp':tmps[p]?.getD undef = .pointer (some ⟨g,0,none⟩):=by simpa using hp
 simp [results,h,hp',asAddr,run_loadVar_row w g t ty cs fr d hg hu hd hi]
end
theorem qrn {w:World} {base n m c size:Nat} {e:TypeId} {A:Option Addr} {xs:List Value} (h:w.ownsRow base e size (.slice A m c) n xs):m≤c:=by
 rcases h.2 with ⟨he,_⟩|⟨g,cap,cur,he,_,_,hnc,_⟩
 ·
  injection he with _ h2 h3
  omega
 injection he with _ h2 h3
 omega
def Ox {α:Type} (R:α→List Value→Prop) (e:TypeId) (size:Nat) (w:World) (base:Nat) (v:Value) (ps:List α):Prop :=
 ∃ inner,w.ownsRow base e size v ps.length inner∧Reps R size ps inner
section
variable {α:Type} {R R':α→List Value→Prop} {e:TypeId} {size:Nat} {w w1:World} {base:Nat} {v:Value} {ps:List α}
theorem Ox.none_ (R:α→List Value→Prop) (e:TypeId) (size:Nat) (w:World) (base:Nat):Ox R e size w base (.slice none 0 0) []:=⟨[],qoQ _ _ _ _,Reps.none _ _⟩
theorem Ox.imp_ (h:Ox R e size w base v ps) (hR:∀ p c,R p c→R' p c):Ox R' e size w base v ps:=by
 obtain ⟨inner,ho,hr⟩:=h
 exact ⟨inner,ho,hr.imp_ hR⟩
theorem Ox.reads (h:Ox R e size w base v ps):∃ A c,v = .slice A ps.length c∧ps.length≤c∧Ge R size w A ps.length ps:=by
 obtain ⟨inner,ho,hr⟩:=h
 obtain ⟨A,c,rfl,hrow⟩:=qed ho hr rfl
 exact ⟨A,c,rfl,qrn ho,hrow⟩
theorem Ox.ne_block (h:Ox R e size w base v ps) {g:Nat} {t:TypeId} {cells:Array Value} (hb:w.heap[g]? = some (.cells cells t (0,0))) (ht:e≠t):some g≠v.ownBlock:=by
 obtain ⟨inner,ho,hr⟩:=h
 exact qro ho hb ht
end
theorem Ge.inner_ {α:Type} {R:α→List Value→Prop} {size:Nat} {w:World} {ad:Addr} {n:Nat} {ps:List α} (h:Ge R size w (some ad) n ps) :
  ∃ inner,Reps R size ps inner ∧ ∀ j u,inner[j]? = some u→w.cell? (ad.add j)=some u:=by
 have key:∀ m,m≤ps.length → ∃ inner,Reps R size (ps.take m) inner ∧ ∀ j u,inner[j]? = some u→w.cell? (ad.add j)=some u:=by
  intro m
  induction m with
  | zero=>exact fun _=>⟨[],Reps.none _ _,fun j u hu=>by simp at hu⟩
  | succ m ih =>
   intro hm
   obtain ⟨inner,hr,hc⟩:=ih (by omega)
   obtain ⟨ad',he,hcell⟩:=h.2.2 (by have:=h.1;omega)
   injection he with he
   subst he
   obtain ⟨c,hcl,hp,hcc⟩:=hcell m _ (List.getElem?_eq_getElem (show m<ps.length by omega))
   refine ⟨inner++c,?_,fun j u hu => ?_⟩
   ·
    rw [List.take_succ_eq_append_getElem (show m<ps.length by omega)]
    exact hr.snoc hp hcl
   have hil:inner.length=m*size:=by rw [hr.1,List.length_take,Nat.min_eq_left (by omega)]
   rcases Nat.lt_or_ge j inner.length with hj|hj
   ·
    rw [List.getElem?_append_left hj] at hu
    exact hc j u hu
   rw [List.getElem?_append_right hj] at hu
   have:=hcc (j-inner.length) u hu
   rwa [hil,Nat.add_sub_cancel' (by omega)] at this
 obtain ⟨inner,hr,hc⟩:=key ps.length (Nat.le_refl _)
 rw [List.take_length] at hr
 exact ⟨inner,hr,hc⟩
section
variable {α:Type} {P:Program}
theorem qal (enc:α→Value) (d:α) (t e:TypeId) (kl:IntKind) {i:TypeInfo} (ht:P.underlying t=some (.slice e)) (hi:P.info? e=some i) (hsz:i.size=1) (A:Option Addr) (c:Nat) (xs:List α) (j:Int) (h0:0≤j) (hm:j≤xs.length) (hc:xs.length≤c) :
  ∃ A':Option Addr,(∀ W:World,(Instr.slice t (.slice A xs.length c) (some (.int kl j)) none none).run P W = .ok (.slice A' (xs.drop j.toNat).length (c-j.toNat)) W) ∧
   (∀ w:World,Ky enc d w A xs.length xs→Ky enc d w A' (xs.drop j.toNat).length (xs.drop j.toNat))∧(xs.drop j.toNat).length≤c-j.toNat:=by
 obtain ⟨m,rfl⟩:=Int.eq_ofNat_of_zero_le h0
 simp only [Int.toNat_natCast]
 have hmn:m≤xs.length:=by omega
 obtain ⟨A',h1,h2⟩:=qfB (P:=P) enc d t e kl ht hi hsz A xs.length c m hmn
 have hl:(xs.drop m).length=xs.length-m:=List.length_drop
 exact ⟨A',fun W=>by rw [hl];exact h1 W,fun w h=>by rw [hl];exact h2 w xs hc h,by rw [hl];omega⟩
end
structure Kd (α:Type) where
 sz:Nat
 E:List Nat
 K:World→α→List Value→Prop
 M:World→Nat→(Nat→Prop)→α→List Value→Prop
 K_len:∀ {w x cs},K w x cs→cs.length=sz
 K_one:∀ {w x cs},K w x cs → ∀ u∈cs,u.oneCell'=true
 K_below:∀ {w w1:World} {x cs},Below w.heap.size w w1→K w x cs→K w1 x cs
 K_of_M:∀ {w base ok x cs},M w base ok x cs→K w x cs
 M_mono:∀ {w base ok ok' x cs},(∀ k,ok k→ok' k)→M w base ok x cs→M w base ok' x cs
 M_bound:∀ {w:World} {base ok x cs},M w base ok x cs→M w base (fun k=>ok k∧base≤k∧k<w.heap.size ∧ ∃ q,q∈E ∧ ∃ cells,w.heap[k]? = some (.cells cells q (0,0))) x cs
 M_move:∀ {w w1:World} {base ok x cs},(∀ k,ok k→w1.heap[k]? = w.heap[k]?)→M w base ok x cs→M w1 base ok x cs
 M_lower:∀ {w base base' ok x cs},base'≤base→M w base ok x cs→M w base' ok x cs
theorem qmM {w w1:World} {base:Nat} {e:TypeId} {size n:Nat} {v:Value} {xs:List Value} (h:w.ownsRow base e size v n xs) (hm:∀ k,v.ownBlock=some k→w1.heap[k]? = w.heap[k]?):w1.ownsRow base e size v n xs:=by
 obtain ⟨h1,h2⟩:=h
 refine ⟨h1,?_⟩
 rcases h2 with h2|⟨g,cap,cur,rfl,hg,hh,r⟩
 ·
  exact .inl h2
 exact .inr ⟨g,cap,cur,rfl,hg,(hm g (by simp [Value.ownBlock])).trans hh,r⟩
theorem Oz {w:World} {base:Nat} {e:TypeId} {size n:Nat} {v:Value} {xs:List Value} (h:w.ownsRow base e size v n xs) (k:Nat) (hk:v.ownBlock=some k):∃ cells,w.heap[k]? = some (.cells cells e (0,0)):=by
 rcases h.2 with ⟨rfl,_⟩|⟨g,cap,cur,rfl,hg,hh,r⟩
 ·
  simp [Value.ownBlock] at hk
 have:g=k:=by simpa [Value.ownBlock] using hk
 subst this
 exact ⟨cur,hh⟩
namespace Kd
def C {α:Type} (d:Kd α) (w:World) (A:Option Addr) (n:Nat) (xs:List α):Prop:=Ge (d.K w) d.sz w A n xs
def R {α:Type} (d:Kd α) (e:Nat) (w:World) (base:Nat) (ok:Nat→Prop) (v:Value) (xs:List α):Prop :=
 (∀ k,v.ownBlock=some k→ok k)∧Ox (d.M w base (fun k=>ok k∧some k≠v.ownBlock)) e d.sz w base v xs
section
variable {α:Type} {d:Kd α} {e:Nat} {w w1:World} {base:Nat} {ok ok':Nat→Prop} {v:Value} {xs:List α}
theorem C_below {A:Option Addr} {n:Nat} (h:d.C w A n xs) (hb:Below w.heap.size w w1):d.C w1 A n xs:=Ge.imp_ h hb (fun _ _ hp=>d.K_below hb hp)
theorem R_nil (d:Kd α) (e:Nat) (w:World) (base:Nat) (ok:Nat→Prop):d.R e w base ok (.slice none 0 0) []:=⟨fun k hk=>by simp [Value.ownBlock] at hk,Ox.none_ _ _ _ _ _⟩
theorem R_mono (h:d.R e w base ok v xs) (hok:∀ k,ok k→ok' k):d.R e w base ok' v xs:=⟨fun k hk=>hok k (h.1 k hk),h.2.imp_ (fun _ _ hp=>d.M_mono (fun k hk=>⟨hok k hk.1,hk.2⟩) hp)⟩
theorem R_bound (h:d.R e w base ok v xs):d.R e w base (fun k=>ok k∧base≤k∧k<w.heap.size ∧ ∃ q,q∈e::d.E ∧ ∃ cells,w.heap[k]? = some (.cells cells q (0,0))) v xs:=by
 obtain ⟨h0,inner,ho,hr⟩:=h
 refine ⟨fun k hk => ?_,inner,ho,hr.imp_ (fun _ _ hp=>d.M_mono (fun k hk => ?_) (d.M_bound hp))⟩
 ·
  obtain ⟨cells,hc⟩:=Oz ho k hk
  exact ⟨h0 k hk,Xu ho k hk,qmL ho k hk,e,List.mem_cons_self,cells,hc⟩
 obtain ⟨⟨h1,h2⟩,h3,h4,q,hq,hc⟩:=hk
 exact ⟨⟨h1,h3,h4,q,List.mem_cons_of_mem _ hq,hc⟩,h2⟩
theorem R_move (h:d.R e w base ok v xs) (hm:∀ k,ok k→w1.heap[k]? = w.heap[k]?):d.R e w1 base ok v xs:=by
 obtain ⟨h0,inner,ho,hr⟩:=h
 exact ⟨h0,inner,qmM ho (fun k hk=>hm k (h0 k hk)),hr.imp_ (fun _ _ hp=>d.M_move (fun k hk=>hm k hk.1) hp)⟩
theorem R_lower {base':Nat} (h:d.R e w base ok v xs) (hb:base'≤base):d.R e w base' ok v xs:=by
 obtain ⟨h0,inner,ho,hr⟩:=h
 exact ⟨h0,inner,qaD ho hb,hr.imp_ (fun _ _ hp=>d.M_lower hb hp)⟩
theorem qdA (h:d.R e w base ok v xs) (hm:∀ k,ok k→k<w.heap.size→w1.heap[k]? = w.heap[k]?):d.R e w1 base ok v xs :=
 R_mono (R_move (R_bound h) (fun k hk=>hm k hk.1 hk.2.2.1)) (fun _ hk=>hk.1)
theorem qlN {x:α} {cs:List Value} (h:d.M w base ok x cs) (hm:∀ k,ok k→k<w.heap.size→w1.heap[k]? = w.heap[k]?):d.M w1 base ok x cs :=
 d.M_mono (fun _ hk=>hk.1) (d.M_move (fun k hk=>hm k hk.1 hk.2.2.1) (d.M_bound h))
theorem R_below (h:d.R e w base ok v xs) (hb:Below w.heap.size w w1):d.R e w1 base ok v xs:=qdA h (fun k _ hk=>hb.block k hk)
theorem qnt {x:α} {cs:List Value} (h:d.M w base ok x cs) (hb:Below w.heap.size w w1):d.M w1 base ok x cs:=qlN h (fun k _ hk=>hb.block k hk)
theorem R_far (h:d.R e w base ok v xs) {p:Addr} (hok:∀ k,ok k→k≠p.block) (u:Value):d.R e (w.setCell p u) base ok v xs:=qdA h (fun k ho _=>Below.heap_setCell w p u k (hok k ho))
theorem R_types (h:d.R e w base ok v xs) {g t:Nat} {cells:Array Value} (hb:w.heap[g]? = some (.cells cells t (0,0))) (ht:∀ q,q∈e::d.E→q≠t):d.R e w base (fun k=>ok k∧k≠g) v xs :=
 R_mono (R_bound h) (fun k hk=>⟨hk.1,by
  obtain ⟨_,_,_,q,hq,cells',hc⟩:=hk
  rintro rfl
  rw [hc] at hb
  injection hb with hb
  injection hb with _ hb
  exact ht q hq hb⟩)
theorem R_reads (h:d.R e w base ok v xs):∃ A c,v = .slice A xs.length c∧xs.length≤c∧d.C w A xs.length xs:=by
 obtain ⟨A,c,he,hl,hr⟩:=Ox.reads h.2
 exact ⟨A,c,he,hl,hr.imp_ (Below.refl _ _) (fun _ _ hp=>d.K_of_M hp)⟩
theorem R_slice (h:d.R e w base ok v xs):∃ A c,v = .slice A xs.length c:=by
 obtain ⟨A,c,he,_⟩:=R_reads h
 exact ⟨A,c,he⟩
theorem qjn (h:d.R e w base ok v xs):∃ inner,w.ownsRow base e d.sz v xs.length inner:=by
 obtain ⟨_,inner,ho,_⟩:=h
 exact ⟨inner,ho⟩
theorem R_ne (h:d.R e w base ok v xs) {g t:Nat} {cells:Array Value} (hb:w.heap[g]? = some (.cells cells t (0,0))) (ht:e≠t):some g≠v.ownBlock:=Ox.ne_block h.2 hb ht
end
def scalar {α:Type} (enc:α→Value) (h1:∀ x,(enc x).oneCell'=true):Kd α where
 sz:=1
 E:=[]
 K:=fun _ x cs=>cs=[enc x]
 M:=fun _ _ _ x cs=>cs=[enc x]
 K_len:=fun h=>by rw [h];rfl
 K_one:=fun h u hu=>by
  rw [h] at hu
  rw [List.mem_singleton.1 hu]
  exact h1 _
 K_below:=fun _ h=>h
 K_of_M:=fun h=>h
 M_mono:=fun _ h=>h
 M_bound:=fun h=>h
 M_move:=fun _ h=>h
 M_lower:=fun _ h=>h
def int (k:IntKind):Kd Int:=scalar (Value.int k) (fun _=>rfl)
def bool:Kd Bool:=scalar Value.bool (fun _=>rfl)
def string:Kd ByteArray:=scalar Value.string (fun _=>rfl)
def slice {α:Type} (e:Nat) (d:Kd α):Kd (List α) where
 sz:=1
 E:=e::d.E
 K:=fun w xs cs => ∃ A c,cs=[.slice A xs.length c]∧xs.length≤c∧d.C w A xs.length xs
 M:=fun w base ok xs cs => ∃ v,cs=[v]∧d.R e w base ok v xs
 K_len:=by
  rintro w x cs ⟨A,c,rfl,_⟩
  rfl
 K_one:=by
  rintro w x cs ⟨A,c,rfl,_⟩ u hu
  rw [List.mem_singleton.1 hu]
  rfl
 K_below:=by
  rintro w w1 x cs hb ⟨A,c,rfl,hl,hr⟩
  exact ⟨A,c,rfl,hl,C_below hr hb⟩
 K_of_M:=by
  rintro w base ok x cs ⟨v,rfl,h⟩
  obtain ⟨A,c,rfl,hl,hr⟩:=R_reads h
  exact ⟨A,c,rfl,hl,hr⟩
 M_mono:=by
  rintro w base ok ok' x cs hok ⟨v,rfl,h⟩
  exact ⟨v,rfl,R_mono h hok⟩
 M_bound:=by
  rintro w base ok x cs ⟨v,rfl,h⟩
  exact ⟨v,rfl,R_bound h⟩
 M_move:=by
  rintro w w1 base ok x cs hm ⟨v,rfl,h⟩
  exact ⟨v,rfl,R_move h hm⟩
 M_lower:=by
  rintro w base base' ok x cs hb ⟨v,rfl,h⟩
  exact ⟨v,rfl,R_lower h hb⟩
def pair {α β:Type} (a:Kd α) (b:Kd β):Kd (α × β) where
 sz:=a.sz+b.sz
 E:=a.E++b.E
 K:=fun w x cs => ∃ c0 c1,cs=c0++c1∧a.K w x.1 c0∧b.K w x.2 c1
 M:=fun w base ok x cs => ∃ c0 c1,cs=c0++c1∧a.M w base ok x.1 c0∧b.M w base ok x.2 c1
 K_len:=by
  rintro w x cs ⟨c0,c1,rfl,h0,h1⟩
  rw [List.length_append,a.K_len h0,b.K_len h1]
 K_one:=by
  rintro w x cs ⟨c0,c1,rfl,h0,h1⟩ u hu
  rcases List.mem_append.1 hu with hu|hu
  ·
   exact a.K_one h0 u hu
  exact b.K_one h1 u hu
 K_below:=by
  rintro w w1 x cs hb ⟨c0,c1,rfl,h0,h1⟩
  exact ⟨c0,c1,rfl,a.K_below hb h0,b.K_below hb h1⟩
 K_of_M:=by
  rintro w base ok x cs ⟨c0,c1,rfl,h0,h1⟩
  exact ⟨c0,c1,rfl,a.K_of_M h0,b.K_of_M h1⟩
 M_mono:=by
  rintro w base ok ok' x cs hok ⟨c0,c1,rfl,h0,h1⟩
  exact ⟨c0,c1,rfl,a.M_mono hok h0,b.M_mono hok h1⟩
 M_bound:=by
  rintro w base ok x cs ⟨c0,c1,rfl,h0,h1⟩
  refine ⟨c0,c1,rfl,a.M_mono ?_ (a.M_bound h0),b.M_mono ?_ (b.M_bound h1)⟩
  ·
   rintro k ⟨h2,h3,h4,q,hq,hc⟩
   exact ⟨h2,h3,h4,q,List.mem_append_left _ hq,hc⟩
  rintro k ⟨h2,h3,h4,q,hq,hc⟩
  exact ⟨h2,h3,h4,q,List.mem_append_right _ hq,hc⟩
 M_move:=by
  rintro w w1 base ok x cs hm ⟨c0,c1,rfl,h0,h1⟩
  exact ⟨c0,c1,rfl,a.M_move hm h0,b.M_move hm h1⟩
 M_lower:=by
  rintro w base base' ok x cs hb ⟨c0,c1,rfl,h0,h1⟩
  exact ⟨c0,c1,rfl,a.M_lower hb h0,b.M_lower hb h1⟩
def iso {α β:Type} (d:Kd α) (f:β→α):Kd β where
 sz:=d.sz
 E:=d.E
 K:=fun w x cs=>d.K w (f x) cs
 M:=fun w base ok x cs=>d.M w base ok (f x) cs
 K_len:=d.K_len
 K_one:=d.K_one
 K_below:=d.K_below
 K_of_M:=d.K_of_M
 M_mono:=d.M_mono
 M_bound:=d.M_bound
 M_move:=d.M_move
 M_lower:=d.M_lower
theorem C_get {α:Type} {d:Kd α} {w:World} {A:Option Addr} {n:Nat} {xs:List α} (h:d.C w A n xs) (z:α) (i:Int) (h0:0≤i) (h1:i<n) :
  ∃ ad c,A=some ad∧c.length=d.sz∧d.K w (xs.getD i.toNat z) c ∧ ∀ j u,c[j]? = some u→w.cell? (ad.add (i.toNat*d.sz+j))=some u:=Ge.get_ h z i h0 h1
theorem qdz {α:Type} {d:Kd α} {e base:Nat} {ok okp:Nat→Prop} {W w1:World} {v v1:Value} {xs:List α} {p:α} {inner cs:List Value} (h0:∀ k,v.ownBlock=some k→ok k) (hr:Reps (d.M W base (fun k=>ok k∧some k≠v.ownBlock)) d.sz xs inner) (hp:d.M W base okp p cs) (hokp:∀ k,okp k→ok k∧some k≠v.ownBlock) (hfresh:∀ k,W.heap.size≤k→ok k)
  (hown:w1.ownsRow base e d.sz v1 (xs.length+1) (inner++cs)) (hg:W.grownBy w1 v.ownBlock) (hat:v1.ownBlock=v.ownBlock ∨ ∃ b,v1.ownBlock=some b∧W.heap.size≤b):d.R e w1 base ok v1 (xs++[p]):=by
 have hne:∀ k,some k≠v.ownBlock→k<W.heap.size→some k≠v1.ownBlock:=by
  intro k hk hlt
  rcases hat with hat|⟨b,hb,hle⟩
  ·
   rw [hat];exact hk
  rw [hb]
  intro he
  injection he with he
  omega
 have step:∀ {q:α} {c:List Value} {o:Nat→Prop},d.M W base o q c→(∀ k,o k→ok k∧some k≠v.ownBlock)→d.M w1 base (fun k=>ok k∧some k≠v1.ownBlock) q c:=by
  intro q c o hq ho
  have h1:=d.M_move (w1:=w1) (fun k hk=>hg.block k hk.2.2.1 (ho k hk.1).2) (d.M_bound hq)
  exact d.M_mono (fun k hk=>⟨(ho k hk.1).1,hne k (ho k hk.1).2 hk.2.2.1⟩) h1
 refine ⟨fun k hk => ?_,inner++cs,by rw [List.length_append,List.length_singleton];exact hown,?_⟩
 ·
  rcases hat with hat|⟨b,hb,hle⟩
  ·
   exact h0 k (hat ▸ hk)
  rw [hb] at hk
  injection hk with hk
  exact hfresh k (by omega)
 exact (hr.imp_ (fun _ _ hq=>step hq (fun _ hk=>hk))).snoc (step hp hokp) (d.K_len (d.K_of_M hp))
section
variable {P:Program} {ops:Array Oper} {rest:List Oper} {o:Oper} {a:Act} {Q:Exit→Act→World→Prop} {α:Type}
theorem R_append (d:Kd α) {w0 W:World} (base:Nat) (hgd:o.guard=none) (s x:Operand) (t e:TypeId) (z:Value) (bytes:Nat)
  (ho:o.op = .call { callee:=.builtin .append,args:=#[s,x],argTypes:=#[t,t] })
  (ht:P.underlying t=some (.slice e)) (hinfo:(P.info? e).map (fun i=>(i.zero,i.size,i.bytes))=some (some z,d.sz,bytes)) (hz:z.cells.size=d.sz) (hs0:0<d.sz) (hb0:0<bytes)
  (v:Value) (xs:List α) (p:α) (cs:List Value) (ok okp:Nat→Prop) (hs:a.eval s=v) (hx:a.eval x = .slice (some ⟨W.heap.size,0,none⟩) 1 1) (hp:d.M W base okp p cs) (hokp:∀ k,okp k→ok k∧some k≠v.ownBlock) (hfresh:∀ k,W.heap.size≤k→ok k)
  (HO:d.R e W base ok v xs) (HB:Below base w0 W) (hbase:base≤W.heap.size) (hl:(xs.length+1)*bytes≤140737488355328)
  (h:∀ v1 w1,d.R e w1 base ok v1 (xs++[p])→Below base w0 w1→W.grownBy w1 v.ownBlock→(v1.ownBlock=v.ownBlock ∨ ∃ b,v1.ownBlock=some b∧W.heap.size≤b)→wpList P ops Q rest (a.put o.dst v1) w1) :
  wpList P ops Q (o::rest) a (W.alloc (.cells cs.toArray e)):=by
 obtain ⟨h0,inner,hown,hr⟩:=HO
 refine qaH base hgd s x t e z d.sz bytes ho ht hinfo hz hs0 hb0 v xs.length inner cs hs hx (d.K_len (d.K_of_M hp)) (d.K_one (d.K_of_M hp)) hown HB hbase hl ?_
 intro v1 w1 hown1 hb1 hg1 qh1
 exact h v1 w1 (qdz h0 hr hp hokp hfresh hown1 hg1 qh1) hb1 hg1 qh1
end
section
variable {P:Program} {ops:Array Oper} {o:Oper} {a:Act} {Q:Exit→Act→World→Prop} {Kc:Act→World→Prop} {α:Type}
theorem R_append_step (d:Kd α) {w0 W:World} (base:Nat) (hw:Region.wanted o (yielded ops a.tmps)=true) (s x:Operand) (t e:TypeId) (z:Value) (bytes:Nat)
  (ho:o.op = .call { callee:=.builtin .append,args:=#[s,x],argTypes:=#[t,t] })
  (ht:P.underlying t=some (.slice e)) (hinfo:(P.info? e).map (fun i=>(i.zero,i.size,i.bytes))=some (some z,d.sz,bytes)) (hz:z.cells.size=d.sz) (hs0:0<d.sz) (hb0:0<bytes)
  (v:Value) (xs:List α) (p:α) (cs:List Value) (ok okp:Nat→Prop) (hs:a.eval s=v) (hx:a.eval x = .slice (some ⟨W.heap.size,0,none⟩) 1 1) (hp:d.M W base okp p cs) (hokp:∀ k,okp k→ok k∧some k≠v.ownBlock) (hfresh:∀ k,W.heap.size≤k→ok k)
  (HO:d.R e W base ok v xs) (HB:Below base w0 W) (hbase:base≤W.heap.size) (hl:(xs.length+1)*bytes≤140737488355328)
  (h:∀ v1 w1,d.R e w1 base ok v1 (xs++[p])→Below base w0 w1→W.grownBy w1 v.ownBlock→(v1.ownBlock=v.ownBlock ∨ ∃ b,v1.ownBlock=some b∧W.heap.size≤b)→Kc (a.put o.dst v1) w1) :
  if Region.wanted o (yielded ops a.tmps)=true then Oper.wp P o a (W.alloc (.cells cs.toArray e)) Kc Q else Kc (a.put o.dst undef) (W.alloc (.cells cs.toArray e)):=by
 obtain ⟨h0,inner,hown,hr⟩:=HO
 refine qbU base hw s x t e z d.sz bytes ho ht hinfo hz hs0 hb0 v xs.length inner cs hs hx (d.K_len (d.K_of_M hp)) (d.K_one (d.K_of_M hp)) hown HB hbase hl ?_
 intro v1 w1 hown1 hb1 hg1 qh1
 exact h v1 w1 (qdz h0 hr hp hokp hfresh hown1 hg1 qh1) hb1 hg1 qh1
end
theorem qhd {α:Type} {enc:α→Value} (xs:List α):Reps (fun (x:α) (cs:List Value)=>cs=[enc x]) 1 xs (encs enc xs):=by
 refine ⟨by simp [encs],fun j p hj => ?_⟩
 obtain ⟨hl,hp⟩:=List.getElem?_eq_some_iff.1 hj
 have hl':j<(encs enc xs).length:=by rw [qcl];exact hl
 rw [Nat.mul_one,List.drop_eq_getElem_cons hl']
 simp [encs,hp]
theorem R_of_own {α:Type} {enc:α→Value} {h1:∀ x,(enc x).oneCell'=true} {e:Nat} {w:World} {base:Nat} {ok:Nat→Prop} {v:Value} {xs:List α} (ho:w.ownsRow base e 1 v xs.length (encs enc xs)) (hok:∀ k,v.ownBlock=some k→ok k):(scalar enc h1).R e w base ok v xs:=⟨hok,encs enc xs,ho,qhd xs⟩
theorem qg4 {α:Type} {enc:α→Value} {h1:∀ x,(enc x).oneCell'=true} {e:Nat} {w:World} {base:Nat} {ok:Nat→Prop} {v:Value} {xs:List α} (h:(scalar enc h1).R e w base ok v xs):w.ownsRow base e 1 v xs.length (encs enc xs):=by
 obtain ⟨_,inner,ho,hr⟩:=h
 have:inner=encs enc xs:=by
  apply List.ext_getElem?
  intro j
  rcases Nat.lt_or_ge j xs.length with hj|hj
  ·
   have h2:=hr.2 j _ (List.getElem?_eq_getElem hj)
   have hl:j<inner.length:=by have:=hr.1;simp [scalar] at this;omega
   have h3:(inner.drop (j*1)).take 1=[enc xs[j]]:=h2
   rw [Nat.mul_one,List.drop_eq_getElem_cons hl] at h3
   have h4:inner[j]=enc xs[j]:=by
    have h5:=congrArg List.head? h3;rw [List.take_succ_cons] at h5
    exact Option.some.inj h5
   rw [List.getElem?_eq_getElem hl,h4]
   simp [encs,List.getElem?_eq_getElem hj]
  have h3:inner.length=xs.length:=by have:=hr.1;simp [scalar] at this;omega
  rw [List.getElem?_eq_none (by omega),List.getElem?_eq_none (by rw [qcl];omega)]
 rw [← this]
 exact ho
theorem C_of_reads {α:Type} {enc:α→Value} {d:α} {h1:∀ x,(enc x).oneCell'=true} {w:World} {A:Option Addr} {n:Nat} {xs:List α} (h:Ky enc d w A n xs):(scalar enc h1).C w A n xs:=by
 refine ⟨h.1,h.2.1,fun hn => ?_⟩
 obtain ⟨ad,e,hc⟩:=h.2.2 hn
 refine ⟨ad,e,fun j p hj=>⟨[enc p],rfl,rfl,fun i u hu => ?_⟩⟩
 obtain ⟨hl,hp⟩:=List.getElem?_eq_some_iff.1 hj
 have h2:=hc j (by have:=h.1;omega)
 rw [List.getD_eq_getElem?_getD,hj] at h2
 cases i with
 | zero =>
  have:enc p=u:=by simpa using hu
  subst this
  simpa [scalar] using h2
 | succ i=>simp at hu
theorem reads_of_C {α:Type} {enc:α→Value} {d:α} {h1:∀ x,(enc x).oneCell'=true} {w:World} {A:Option Addr} {n:Nat} {xs:List α} (h:(scalar enc h1).C w A n xs):Ky enc d w A n xs:=by
 refine ⟨h.1,h.2.1,fun hn => ?_⟩
 obtain ⟨ad,e,hc⟩:=h.2.2 hn
 refine ⟨ad,e,fun j hj => ?_⟩
 have hl:j<xs.length:=by have:=h.1;omega
 obtain ⟨c,_,hK,hcell⟩:=hc j _ (List.getElem?_eq_getElem hl)
 have hK':c=[enc xs[j]]:=hK
 subst hK'
 have:=hcell 0 _ rfl
 simpa [scalar,List.getD_eq_getElem?_getD,List.getElem?_eq_getElem hl] using this
end Kd
namespace Kd
theorem R_after {α:Type} {d:Kd α} {e base:Nat} {ok:Nat→Prop} {W w1:World} {u v v1:Value} {xs:List α} (h:d.R e W base (fun k=>ok k∧some k≠v.ownBlock) u xs) (hg:W.grownBy w1 v.ownBlock) (hat:v1.ownBlock=v.ownBlock ∨ ∃ b,v1.ownBlock=some b∧W.heap.size≤b):d.R e w1 base (fun k=>ok k∧some k≠v1.ownBlock) u xs:=by
 refine R_mono (R_move (R_bound h) (fun k hk=>hg.block k hk.2.2.1 hk.1.2)) (fun k hk=>⟨hk.1.1,?_⟩)
 rcases hat with hat|⟨b,hb,hle⟩
 ·
  rw [hat];exact hk.1.2
 rw [hb]
 intro he
 injection he with he
 have:=hk.2.2.1
 omega
end Kd
namespace Kd
section
variable {α β:Type} {d:Kd α} {d':Kd β} {e e':Nat} {w w1 W:World} {base b b':Nat} {ok ok' okv oku:Nat→Prop} {v u:Value} {xs:List α} {ys:List β}
theorem R_alloc (h:d.R e w base ok v xs) (o:Obj):d.R e (w.alloc o) base ok v xs:=R_below h (Q4 (Below.refl _ _) o)
theorem R_drew (h:d.R e w base ok v xs):d.R e w.drew base ok v xs:=R_below h (YA (Below.refl _ _))
theorem R_drewN (h:d.R e w base ok v xs) (m:Nat):d.R e (w.drewN m) base ok v xs:=R_below h (Q1 (Below.refl _ _) m)
theorem C_alloc {A:Option Addr} {n:Nat} (h:d.C w A n xs) (o:Obj):d.C (w.alloc o) A n xs:=C_below h (Q4 (Below.refl _ _) o)
theorem C_drew {A:Option Addr} {n:Nat} (h:d.C w A n xs):d.C w.drew A n xs:=C_below h (YA (Below.refl _ _))
theorem C_drewN {A:Option Addr} {n:Nat} (h:d.C w A n xs) (m:Nat):d.C (w.drewN m) A n xs:=C_below h (Q1 (Below.refl _ _) m)
theorem C_nil (d:Kd α) (w:World):d.C w none ([]:List α).length []:=⟨rfl,by simp,fun h=>absurd h (Nat.lt_irrefl 0)⟩
theorem R_reads' {A:Option Addr} {n c:Nat} (h:d.R e w base ok (.slice A n c) xs):n=xs.length∧n≤c∧d.C w A xs.length xs:=by
 obtain ⟨A',c',he,hl,hr⟩:=R_reads h
 injection he with h1 h2 h3
 subst h1
 exact ⟨h2,by omega,hr⟩
theorem R_lt (h:d.R e w base ok v xs):∀ k,v.ownBlock=some k→k<w.heap.size:=by
 obtain ⟨inner,ho⟩:=qjn h
 exact qmL ho
theorem R_base (h:d.R e w base ok v xs):∀ k,v.ownBlock=some k→base≤k:=by
 obtain ⟨inner,ho⟩:=qjn h
 exact Xu ho
theorem R_form (h:d.R e w base ok v xs) (hp:0<xs.length):∃ g cap,v = .slice (some ⟨g,0,none⟩) xs.length cap∧base≤g∧g<w.heap.size ∧ ∃ cells,w.heap[g]? = some (.cells cells e (0,0)):=by
 obtain ⟨inner,ho⟩:=qjn h
 obtain ⟨g,cap,he,hb,hl⟩:=ho.form hp
 obtain ⟨cells,hc⟩:=Oz ho g (by rw [he];simp [Value.ownBlock])
 exact ⟨g,cap,he,hb,hl,cells,hc⟩
end
section
variable {w W:World} {A:Option Addr} {n:Nat}
theorem at_int {k:IntKind} {xs:List Int} (h:(Kd.int k).C w A n xs) (i:Int) (h0:0≤i) (h1:i<n):∃ ad,A=some ad∧w.cell? (ad.add i.toNat)=some (.int k (rd xs i)) :=
 Ky.at_ (reads_of_C (enc:=Value.int k) (d:=(0:Int)) (h1:=fun _=>rfl) h) i h0 h1
variable {α:Type} {enc:α→Value} {h1:∀ x,(enc x).oneCell'=true} {e base g cap:Nat} {ok:Nat→Prop} {xs:List α}
theorem qqJ (d:α) (h:(scalar enc h1).R e W base ok (.slice (some ⟨g,0,none⟩) xs.length cap) xs) (i:Int) (h0:0≤i) (hi:i<xs.length):W.cell? ⟨g,i.toNat,none⟩=some (enc (rdOf d xs i))∧W.frozen? ⟨g,i.toNat,none⟩=false:=qk5 (qg4 h) i h0 hi
theorem qpW (h:(scalar enc h1).R e W base ok (.slice (some ⟨g,0,none⟩) xs.length cap) xs) (i:Int) (x:α):(scalar enc h1).R e (W.setCell ⟨g,i.toNat,none⟩ (enc x)) base ok (.slice (some ⟨g,0,none⟩) xs.length cap) (xs.set i.toNat x)∧W.grownBy (W.setCell ⟨g,i.toNat,none⟩ (enc x)) (some g):=by
 obtain ⟨ho,hg⟩:=qfz (qg4 h) i x
 exact ⟨R_of_own (by rw [List.length_set];exact ho) h.1,hg⟩
end
section
variable {P:Program} {ops:Array Oper} {rest:List Oper} {o:Oper} {a:Act} {Q:Exit→Act→World→Prop}
theorem event_run {W w1:World} {v:Value} (hgd:o.guard=none) (hrun:(execOp a.eval o).run P W = .ok (.value v) w1) (h:wpList P ops Q rest (a.put o.dst v) w1):wpList P ops Q (o::rest) a W:=by
 refine wpList_plain hgd fun K hK => ?_
 unfold Oper.wp
 rw [hrun]
 exact hK _ _ h
variable {α:Type}
theorem R_lit (d:Kd α) {w0 W:World} (base e:Nat) (hgd:o.guard=none) {N:Tmp} (_hd:o.dst=some N) {xs:List α} {inner:List Value} {ok okp:Nat→Prop}
  (hrun:(execOp a.eval o).run P W = .ok (.value (.slice (some ⟨W.heap.size,0,none⟩) xs.length xs.length)) (W.alloc (.cells inner.toArray e)))
  (hrep:Reps (d.M W base okp) d.sz xs inner) (hok:∀ k,okp k→ok k) (hfresh:ok W.heap.size) (HB:Below base w0 W) (hbase:base≤W.heap.size) (hm:xs.length≤9223372036854775807)
  (h:∀ v1 w1,d.R e w1 base ok v1 xs→Below base w0 w1→W.grownBy w1 none→(∃ b,v1.ownBlock=some b∧W.heap.size≤b)→wpList P ops Q rest (a.put o.dst v1) w1):wpList P ops Q (o::rest) a W:=by
 refine event_run hgd hrun (h _ _ ⟨fun k hk => ?_,inner,?_,?_⟩ (HB.alloc hbase _) (World.grownBy_alloc W _ none) ⟨W.heap.size,by simp [Value.ownBlock],Nat.le_refl _⟩)
 ·
  have:W.heap.size=k:=by simpa [Value.ownBlock] using hk
  subst this
  exact hfresh
 ·
  have h2:=World.ownsRow_lit (base:=base) (e:=e) (size:=d.sz) W inner.toArray xs.length hbase (by simpa [maxLen] using hm) (by simpa using hrep.1)
  simpa using h2
 refine hrep.imp_ (fun p c hp=>d.M_mono (fun k hk=>⟨hok k hk.1,fun he => ?_⟩) (qnt (d.M_bound hp) (Q4 (Below.refl _ _) _)))
 have h3:k=W.heap.size:=by simpa [Value.ownBlock] using he
 have:=hk.2.2.1
 omega
theorem qk9 {α:Type} {R:α→List Value→Prop} {z:Value} {size:Nat} {z0:α} (hz:z.cells.size=size) (hs:0<size) (h0:R z0 z.cells.toList) (m:Nat):Reps R size (List.replicate m z0) (madeCells z.cells (m*size)).toList:=by
 refine ⟨by simp [size_madeCells],fun j p hj => ?_⟩
 obtain ⟨hjl,hp⟩:=List.getElem?_eq_some_iff.1 hj
 have hjm:j<m:=by simpa using hjl
 have hp':z0=p:=by simpa using hp
 subst hp'
 have hle:j*size+size≤m*size:=by rw [← Nat.succ_mul];exact Nat.mul_le_mul_right _ hjm
 have:((madeCells z.cells (m*size)).toList.drop (j*size)).take size=z.cells.toList:=by
  apply List.ext_getElem
  ·
   simp [size_madeCells,hz]
   omega
  intro i h1 h2
  have hi:i<size:=by rw [Array.length_toList,hz] at h2;exact h2
  have hmod:(j*size+i) % size=i:=by
   rw [Nat.mul_comm,Nat.mul_add_mod]
   exact Nat.mod_eq_of_lt hi
  simp [madeCells,hz,hmod]
  rw [getElem!_pos z.cells i (by omega)]
 rw [this]
 exact h0
theorem R_make (d:Kd α) {w0 W:World} (base e:Nat) (hgd:o.guard=none) {N:Tmp} (hd:o.dst=some N) (t:TypeId) (x y:Operand) (ho:o.op = .makeSlice t x y) (n:Int) (hx:a.eval x = .int .i64 n) (hy:a.eval y = .int .i64 n)
  (ht:P.underlying t=some (.slice e)) (z:Value) (bytes:Nat) (hinfo:(P.info? e).map (fun i=>(i.zero,i.size,i.bytes))=some (some z,d.sz,bytes)) (hz:z.cells.size=d.sz) (hs0:0<d.sz) (hb0:0<bytes)
  (z0:α) {ok okp:Nat→Prop} (hzero:d.M W base okp z0 z.cells.toList) (hok:∀ k,okp k→ok k) (hfresh:ok W.heap.size) (h0:0≤n) (hl:n.toNat*bytes≤281474976710656) (HB:Below base w0 W) (hbase:base≤W.heap.size)
  (h:∀ v1 w1,d.R e w1 base ok v1 (List.replicate n.toNat z0)→Below base w0 w1→W.grownBy w1 none→(∃ b,v1.ownBlock=some b∧W.heap.size≤b)→wpList P ops Q rest (a.put o.dst v1) w1):wpList P ops Q (o::rest) a W:=by
 obtain ⟨m,rfl⟩:=Int.eq_ofNat_of_zero_le h0
 simp only [Int.toNat_natCast] at hl h
 obtain ⟨i0,hi,hzz⟩:=Option.map_eq_some_iff.1 hinfo
 simp only [Prod.mk.injEq] at hzz
 obtain ⟨hz0,hz1,hz2⟩:=hzz
 have hm:m≤281474976710656:=Nat.le_trans (Nat.le_mul_of_pos_right _ hb0) hl
 have hr:=run_make (P:=P) W t e i0 z ht hi hz0 .i64 .i64 (m:Int) (m:Int) (by omega) (by omega)
  (by
   have h3:((i0.bytes*m:Nat):Int)≤281474976710656:=by rw [hz2,Nat.mul_comm];omega
   rwa [Int.natCast_mul] at h3) (by omega)
 simp only [Int.toNat_natCast] at hr
 rw [hz1] at hr
 refine R_lit d base e hgd hd (xs:=List.replicate m z0) (inner:=(madeCells z.cells (m*d.sz)).toList) (okp:=okp) (ok:=ok) ?_ (qk9 hz hs0 hzero m) hok hfresh HB hbase (by simp;omega) h
 simp [execOp,ho,hx,hy,hr]
end
end Kd
theorem qmN {w:World} {base n m c size:Nat} {e:TypeId} {A:Option Addr} {xs:List Value} (h:w.ownsRow base e size (.slice A n c) n xs) (hm:m≤n):w.ownsRow base e size (.slice A m c) m (xs.take (m*size)):=by
 obtain ⟨h1,h2⟩:=h
 refine ⟨by rw [List.length_take,h1];exact Nat.min_eq_left (Nat.mul_le_mul_right _ hm),?_⟩
 rcases h2 with ⟨he,h0⟩|⟨g,cap,cur,he,hb,hh,hnc,hcm,hcs,ht⟩
 ·
  injection he with ha _ hc
  subst ha;subst hc
  exact .inl ⟨by rw [show m=0 by omega],by omega⟩
 injection he with ha _ hc
 subst ha;subst hc
 refine .inr ⟨g,c,cur,rfl,hb,hh,by omega,hcm,hcs,?_⟩
 rw [← ht,List.take_take,Nat.min_eq_left (Nat.mul_le_mul_right _ hm)]
def QRow (w:World) (base:Nat) (e:TypeId) (size:Nat) (v:Value) (n:Nat) (xs:List Value):Prop :=
  xs.length=n*size ∧
  ((n=0 ∧ ∃ A,v = .slice A 0 0 ∧ ∀ a,A=some a→base≤a.block ∧ ∃ cur,w.heap[a.block]? = some (.cells cur e (0,0))) ∨
   ∃ g off cap cur,v = .slice (some ⟨g,off*size,none⟩) n cap∧base≤g∧w.heap[g]? = some (.cells cur e (0,0))∧n≤cap∧off+cap≤maxLen∧cur.size=(off+cap)*size∧(cur.toList.drop (off*size)).take (n*size)=xs)
section
variable {w w1:World} {base n size:Nat} {e:TypeId} {v:Value} {xs:List Value}
theorem qm0 (h:w.ownsRow base e size v n xs):QRow w base e size v n xs:=by
 obtain ⟨h1,h2⟩:=h
 refine ⟨h1,?_⟩
 rcases h2 with ⟨rfl,h0⟩|⟨g,cap,cur,rfl,hb,hh,hnc,hcm,hcs,ht⟩
 ·
  exact .inl ⟨h0,none,rfl,fun a ha=>by cases ha⟩
 exact .inr ⟨g,0,cap,cur,by rw [Nat.zero_mul],hb,hh,hnc,by rw [Nat.zero_add];exact hcm,by rw [Nat.zero_add];exact hcs,by rw [Nat.zero_mul,List.drop_zero];exact ht⟩
theorem X8 {g:Nat}:∀ (vs:List Value) (o:Nat) {w:World} (k:Nat),k≠g→(w.setCells g o vs).heap[k]? = w.heap[k]?
 | [],_,_,_,_=>rfl
 | v::r,o,w,k,hk=>by
  rw [World.setCells,X8 r (o+1) k hk]
  exact Below.heap_setCell w ⟨g,o,none⟩ v k hk
theorem qam (g:Nat):∀ (vs:List Value) (o:Nat) (w:World),(w.setCells g o vs).os=w.os∧(w.setCells g o vs).tape=w.tape∧(w.setCells g o vs).output=w.output∧(w.setCells g o vs).heap.size=w.heap.size
 | [],_,_=>⟨rfl,rfl,rfl,rfl⟩
 | v::r,o,w=>by
  obtain ⟨h1,h2,h3,h4⟩:=qam g r (o+1) (w.setCell ⟨g,o,none⟩ v)
  rw [World.setCells]
  exact ⟨h1,h2,h3,by rw [h4];simp [World.setCell]⟩
theorem qbT {g:Nat} {e:TypeId}:∀ (vs:List Value) (o:Nat) (w:World) (cur:Array Value),w.heap[g]? = some (.cells cur e (0,0))→o+vs.length≤cur.size →
  ∃ cur',(w.setCells g o vs).heap[g]? = some (.cells cur' e (0,0))∧cur'.size=cur.size∧cur'.toList=cur.toList.take o++vs++cur.toList.drop (o+vs.length)
 | [],o,w,cur,h,_=>⟨cur,h,rfl,by simp⟩
 | v::r,o,w,cur,h,hl=>by
  have h2:=qjt h o v
  simp only [List.length_cons] at hl
  obtain ⟨cur',h3,h4,h5⟩:=qbT r (o+1) (w.setCell ⟨g,o,none⟩ v) _ h2 (by simp;omega)
  refine ⟨cur',h3,by rw [h4];simp,?_⟩
  rw [h5,Array.toList_setIfInBounds]
  have ho:o<cur.toList.length:=by rw [Array.length_toList];omega
  rw [List.take_set,List.drop_set_of_lt (by omega)]
  simp only [List.length_cons]
  rw [show o+1+r.length=o+(r.length+1) by omega]
  congr 1
  rw [List.take_succ_eq_append_getElem ho,List.set_append_right _ _ (by rw [List.length_take];omega)]
  have ho':o<cur.size:=by omega
  simp [Nat.min_eq_left (Nat.le_of_lt ho')]
end
namespace Kd
theorem qla {α:Type} {R:α→List Value→Prop} {size m:Nat} {ps:List α} {cs:List Value} (h:Reps R size ps cs) (hm:m≤ps.length):Reps R size (ps.take m) (cs.take (m*size)):=by
 refine ⟨by rw [List.length_take,List.length_take,h.1,Nat.min_eq_left hm,Nat.min_eq_left (Nat.mul_le_mul_right _ hm)],fun j p hj => ?_⟩
 rw [List.getElem?_take] at hj
 split at hj
 ·
  rename_i hjm
  have:=h.2 j p hj
  have hle:j*size+size≤m*size:=by rw [← Nat.succ_mul];exact Nat.mul_le_mul_right _ hjm
  rw [List.drop_take,List.take_take,Nat.min_eq_left (by omega)]
  exact this
 cases hj
theorem R_take {α:Type} {d:Kd α} {e m n c:Nat} {w:World} {base:Nat} {ok:Nat→Prop} {A:Option Addr} {xs:List α} (h:d.R e w base ok (.slice A n c) xs) (hm:m≤xs.length):d.R e w base ok (.slice A m c) (xs.take m):=by
 obtain ⟨h0,inner,ho,hr⟩:=h
 have hn:n=xs.length:=by
  obtain ⟨A',c',he⟩:=qk6 ho
  injection he
 subst hn
 have hb:∀ x y:Nat,(Value.slice A x c).ownBlock=(Value.slice A y c).ownBlock:=by
  intro x y
  cases A<;>rfl
 refine ⟨fun k hk=>h0 k (by rw [hb _ m];exact hk),inner.take (m*d.sz),?_,?_⟩
 ·
  rw [List.length_take,Nat.min_eq_left hm]
  exact qmN ho hm
 rw [hb m xs.length]
 exact qla hr hm
def Q {α:Type} (d:Kd α) (e:Nat) (w:World) (base:Nat) (ok:Nat→Prop) (v:Value) (xs:List α):Prop :=
 (∀ k,v.ownBlock=some k→ok k) ∧ ∃ inner,QRow w base e d.sz v xs.length inner∧Reps (d.M w base (fun k=>ok k∧some k≠v.ownBlock)) d.sz xs inner
section
variable {α:Type} {d:Kd α} {e:Nat} {w w1 W:World} {base:Nat} {ok ok':Nat→Prop} {v:Value} {xs:List α}
theorem qqI (h:d.R e w base ok v xs):d.Q e w base ok v xs:=by
 obtain ⟨h0,inner,ho,hr⟩:=h
 exact ⟨h0,inner,qm0 ho,hr⟩
theorem Q_nil (d:Kd α) (e:Nat) (w:World) (base:Nat) (ok:Nat→Prop):d.Q e w base ok (.slice none 0 0) []:=qqI (R_nil d e w base ok)
end
end Kd
namespace Kd
section
variable {α:Type} {d:Kd α} {e e':Nat} {w w1 W:World} {base:Nat} {ok:Nat→Prop} {u v:Value} {xs:List α}
theorem R_typed (h:d.R e w base ok v xs):∀ k,v.ownBlock=some k → ∃ cells,w.heap[k]? = some (.cells cells e (0,0)):=by
 obtain ⟨inner,ho⟩:=qjn h
 exact fun k hk=>Oz ho k hk
theorem R_apart' (h:d.R e W base ok u xs) (hty:∀ k,v.ownBlock=some k → ∃ cells,W.heap[k]? = some (.cells cells e' (0,0))) (ht:∀ q,q∈e::d.E→q≠e'):d.R e W base (fun k=>ok k∧some k≠v.ownBlock) u xs:=by
 refine R_mono (R_bound h) (fun k hk=>⟨hk.1,fun he => ?_⟩)
 obtain ⟨_,_,_,q,hq,cells,hc⟩:=hk
 obtain ⟨cells',hc'⟩:=hty k he.symm
 rw [hc] at hc'
 injection hc' with hc'
 injection hc' with _ hc'
 exact ht q hq hc'
theorem R_elder' (hu:d.R e W base ok u xs) (hbase:∀ k,v.ownBlock=some k→W.heap.size≤k) (hb:Below W.heap.size W w1):d.R e w1 base (fun k=>ok k∧some k≠v.ownBlock) u xs :=
 R_mono (R_move (R_bound hu) (fun k hk=>hb.block k hk.2.2.1)) (fun k hk=>⟨hk.1,fun he=>by have:=hbase k he.symm;have:=hk.2.2.1;omega⟩)
theorem R_new' (h:d.R e w1 W.heap.size ok v xs) (hlt:∀ k,u.ownBlock=some k→k<W.heap.size):d.R e w1 W.heap.size (fun k=>ok k∧some k≠u.ownBlock) v xs :=
 R_mono (R_bound h) (fun k hk=>⟨hk.1,fun he=>by have:=hlt k he.symm;have:=hk.2.1;omega⟩)
theorem fresh' (hlt:∀ k,u.ownBlock=some k→k<W.heap.size):∀ k,W.heap.size≤k→some k≠u.ownBlock:=fun k hk he=>by have:=hlt k he.symm;omega
end
end Kd
theorem qbS {α:Type} (a seg:List α) (o:Nat) (h:o+seg.length≤a.length) (q:Nat) :
  (a.take o++seg++a.drop (o+seg.length))[q]? = if q<o then a[q]? else if q<o+seg.length then seg[q-o]? else a[q]?:=by
 have hl:(a.take o).length=o:=by rw [List.length_take];omega
 rw [List.append_assoc]
 by_cases h1:q<o
 ·
  rw [if_pos h1,List.getElem?_append_left (by omega),List.getElem?_take,if_pos h1]
 rw [if_neg h1,List.getElem?_append_right (by omega),hl]
 by_cases h2:q<o+seg.length
 ·
  rw [if_pos h2,List.getElem?_append_left (by omega)]
 rw [if_neg h2,List.getElem?_append_right (by omega),List.getElem?_drop]
 congr 1
 omega
namespace Kd
section
variable {α:Type} {d:Kd α} {e base g n cap:Nat} {ok okp:Nat→Prop} {W:World} {xs:List α}
theorem R_elem (h:d.R e W base ok (.slice (some ⟨g,0,none⟩) n cap) xs) (z:α) (i:Int) (h0:0≤i) (h1:i<n) :
  ∃ c,c.length=d.sz∧d.M W base (fun k=>ok k∧k≠g) (xs.getD i.toNat z) c∧(∀ j u,c[j]? = some u→W.cell? ⟨g,i.toNat*d.sz+j,none⟩=some u) ∧ ∀ j,W.frozen? ⟨g,i.toNat*d.sz+j,none⟩=false:=by
 obtain ⟨hn,hnc,hC⟩:=R_reads' h
 obtain ⟨_,inner,ho,hr⟩:=h
 have hil:i.toNat<xs.length:=by omega
 have hseg:i.toNat*d.sz+d.sz≤inner.length:=by rw [hr.1,← Nat.succ_mul];exact Nat.mul_le_mul_right _ hil
 have hM:=hr.2 i.toNat _ (List.getElem?_eq_getElem hil)
 refine ⟨(inner.drop (i.toNat*d.sz)).take d.sz,by rw [List.length_take,List.length_drop];omega,?_,fun j u hu => ?_,fun j => ?_⟩
 ·
  rw [List.getD_eq_getElem?_getD,List.getElem?_eq_getElem hil]
  exact d.M_mono (fun k hk=>⟨hk.1,fun he=>hk.2 (by rw [he];simp [Value.ownBlock])⟩) hM
 ·
  rw [List.getElem?_take] at hu
  split at hu
  ·
   rw [List.getElem?_drop] at hu
   have:=ho.cells (g:=g) (by simp [Value.ownBlock]) _ u hu
   rwa [KW] at this
  cases hu
 obtain ⟨cells,hc⟩:=Oz ho g (by simp [Value.ownBlock])
 exact Qc hc _
theorem qsu (h:d.R e W base ok (.slice (some ⟨g,0,none⟩) n cap) xs) (i:Int) (h0:0≤i) (h1:i<n) {c seg:List Value} {j:Nat} (hcl:c.length=d.sz) (hcc:∀ j u,c[j]? = some u→W.cell? ⟨g,i.toNat*d.sz+j,none⟩=some u)
  (hj:j+seg.length≤d.sz) {x':α} (hM:d.M W base okp x' (c.take j++seg++c.drop (j+seg.length))) (hokp:∀ k,okp k→ok k∧k≠g) :
  d.R e (W.setCells g (i.toNat*d.sz+j) seg) base ok (.slice (some ⟨g,0,none⟩) n cap) (xs.set i.toNat x')∧W.grownBy (W.setCells g (i.toNat*d.sz+j) seg) (some g):=by
 obtain ⟨hn,hnc,_⟩:=R_reads' h
 obtain ⟨hok,inner,ho,hr⟩:=h
 have hil:i.toNat<xs.length:=by omega
 have hseg:i.toNat*d.sz+d.sz≤inner.length:=by rw [hr.1,← Nat.succ_mul];exact Nat.mul_le_mul_right _ hil
 have hin:inner.length=n*d.sz:=by rw [hr.1,hn]
 obtain ⟨ho1,ho2⟩:=ho
 rcases ho2 with ⟨hv,_⟩|⟨g',cap',cur,hv,hb,hh,hnc',hcm,hcs,ht⟩
 ·
  cases hv
 injection hv with ha _ hc
 injection ha with ha
 injection ha with hg
 subst hg;subst hc
 have hfit:i.toNat*d.sz+j+seg.length≤cur.size:=by
  have:n*d.sz≤cap*d.sz:=Nat.mul_le_mul_right _ hnc
  omega
 obtain ⟨cur',h3,h4,h5⟩:=qbT seg (i.toNat*d.sz+j) W cur hh hfit
 obtain ⟨s1,s2,s3,s4⟩:=qam g seg (i.toNat*d.sz+j) W
 have hfar:∀ k,k≠g→(W.setCells g (i.toNat*d.sz+j) seg).heap[k]? = W.heap[k]?:=fun k hk=>X8 seg _ k hk
 have hcin:∀ q,q<d.sz→c[q]? = inner[i.toNat*d.sz+q]?:=by
  intro q hq
  have hq':q<c.length:=by omega
  have h6:=hcc q _ (List.getElem?_eq_getElem hq')
  rw [cell_of_row W g _ cur e (0,0) hh] at h6
  rw [List.getElem?_eq_getElem hq',← h6,← ht,List.getElem?_take,if_pos (by rw [← hn];omega),Array.getElem?_toList]
 refine ⟨⟨hok,inner.take (i.toNat*d.sz+j)++seg++inner.drop (i.toNat*d.sz+j+seg.length),⟨?_,.inr ⟨g,cap,cur',by rw [List.length_set,hn],hb,h3,by rw [List.length_set,← hn];exact hnc,hcm,by rw [h4,hcs],?_⟩⟩,?_⟩,
  ⟨s1,s2,s3,by rw [s4];exact Nat.le_refl _,fun k _ hk=>hfar k (fun he=>hk (by rw [he]))⟩⟩
 ·
  rw [List.length_set]
  simp only [List.length_append,List.length_take,List.length_drop]
  rw [hr.1] at hseg ⊢
  omega
 ·
  rw [List.length_set,← hn]
  apply List.ext_getElem?
  intro q
  rw [List.getElem?_take,h5]
  rw [qbS cur.toList seg (i.toNat*d.sz+j) (by rw [Array.length_toList];omega) q,qbS inner seg (i.toNat*d.sz+j) (by omega) q]
  have hcur:∀ q,q<n*d.sz→cur.toList[q]? = inner[q]?:=by
   intro q hq
   rw [← ht,List.getElem?_take,if_pos (by rw [← hn];exact hq)]
  by_cases hq:q<n*d.sz
  ·
   rw [if_pos hq,hcur q hq]
  rw [if_neg hq,if_neg (by omega),if_neg (by omega),List.getElem?_eq_none (by omega)]
 refine ⟨?_,fun m p hm => ?_⟩
 ·
  rw [List.length_set]
  simp only [List.length_append,List.length_take,List.length_drop]
  rw [hr.1] at hseg ⊢
  omega
 have hml:m<xs.length:=by
  have:=(List.getElem?_eq_some_iff.1 hm).1
  rwa [List.length_set] at this
 have hmfit:m*d.sz+d.sz≤inner.length:=by rw [hr.1,← Nat.succ_mul];exact Nat.mul_le_mul_right _ hml
 have hgo:some g=(Value.slice (some ⟨g,0,none⟩) n cap).ownBlock:=by simp [Value.ownBlock]
 by_cases hmi:m=i.toNat
 ·
  subst hmi
  rw [List.getElem?_set_self (by omega)] at hm
  injection hm with hm
  subst hm
  have hcells:((inner.take (i.toNat*d.sz+j)++seg++inner.drop (i.toNat*d.sz+j+seg.length)).drop (i.toNat*d.sz)).take d.sz=c.take j++seg++c.drop (j+seg.length):=by
   apply List.ext_getElem?
   intro q
   rw [List.getElem?_take,List.getElem?_drop,qbS inner seg _ (by omega),qbS c seg j (by omega) q]
   by_cases hq:q<d.sz
   ·
    rw [if_pos hq,hcin q hq]
    by_cases hq1:q<j
    ·
     rw [if_pos (by omega),if_pos hq1]
    rw [if_neg (by omega),if_neg hq1]
    by_cases hq2:q<j+seg.length
    ·
     rw [if_pos (by omega),if_pos hq2]
     congr 1
     omega
    rw [if_neg (by omega),if_neg hq2]
   rw [if_neg hq,if_neg (by omega),if_neg (by omega),List.getElem?_eq_none (by omega)]
  rw [hcells]
  refine d.M_mono (fun k hk => ?_) (d.M_move (w1:=W.setCells g (i.toNat*d.sz+j) seg) (fun k hk=>hfar k (hokp k hk).2) hM)
  exact ⟨(hokp k hk).1,fun he=>(hokp k hk).2 (by rw [← hgo] at he;injection he)⟩
 rw [List.getElem?_set_ne (by omega)] at hm
 have hold:=hr.2 m p hm
 have hcells:((inner.take (i.toNat*d.sz+j)++seg++inner.drop (i.toNat*d.sz+j+seg.length)).drop (m*d.sz)).take d.sz=(inner.drop (m*d.sz)).take d.sz:=by
  apply List.ext_getElem?
  intro q
  rw [List.getElem?_take,List.getElem?_take,List.getElem?_drop,List.getElem?_drop,qbS inner seg _ (by omega)]
  by_cases hq:q<d.sz
  ·
   rw [if_pos hq,if_pos hq]
   rcases Nat.lt_or_gt_of_ne hmi with hlt|hgt
   ·
    have:m*d.sz+d.sz≤i.toNat*d.sz:=by rw [← Nat.succ_mul];exact Nat.mul_le_mul_right _ hlt
    rw [if_pos (by omega)]
   have:i.toNat*d.sz+d.sz≤m*d.sz:=by rw [← Nat.succ_mul];exact Nat.mul_le_mul_right _ hgt
   rw [if_neg (by omega),if_neg (by omega)]
  rw [if_neg hq,if_neg hq]
 rw [hcells]
 refine d.M_move (fun k hk=>hfar k (fun he=>hk.2 (by rw [he];exact hgo))) hold
end
end Kd
namespace Kd
def qs7 {α:Type} (d:Kd α) (w0:World):Kd α where
 sz:=d.sz
 E:=[]
 K:=fun _ x cs=>d.K w0 x cs
 M:=fun _ _ _ x cs=>d.K w0 x cs
 K_len:=d.K_len
 K_one:=d.K_one
 K_below:=fun _ h=>h
 K_of_M:=fun h=>h
 M_mono:=fun _ h=>h
 M_bound:=fun h=>h
 M_move:=fun _ h=>h
 M_lower:=fun _ h=>h
def or_ {α:Type} (a b:Kd α) (h:b.sz=a.sz):Kd α where
 sz:=a.sz
 E:=a.E++b.E
 K:=fun w x cs=>a.K w x cs∨b.K w x cs
 M:=fun w base ok x cs=>a.M w base ok x cs∨b.M w base ok x cs
 K_len:=fun hk=>hk.elim a.K_len (fun hk=>(b.K_len hk).trans h)
 K_one:=fun hk=>hk.elim a.K_one b.K_one
 K_below:=fun hb hk=>hk.imp (a.K_below hb) (b.K_below hb)
 K_of_M:=fun hk=>hk.imp a.K_of_M b.K_of_M
 M_mono:=fun hok hk=>hk.imp (a.M_mono hok) (b.M_mono hok)
 M_bound:=fun hk=>hk.imp
  (fun hk=>a.M_mono (fun _ ⟨h1,h2,h3,q,hq,hc⟩=>⟨h1,h2,h3,q,List.mem_append_left _ hq,hc⟩) (a.M_bound hk))
  (fun hk=>b.M_mono (fun _ ⟨h1,h2,h3,q,hq,hc⟩=>⟨h1,h2,h3,q,List.mem_append_right _ hq,hc⟩) (b.M_bound hk))
 M_move:=fun hm hk=>hk.imp (a.M_move hm) (b.M_move hm)
 M_lower:=fun hb hk=>hk.imp (a.M_lower hb) (b.M_lower hb)
def mix {α:Type} (e:Nat) (d dm:Kd α) (w0:World):Kd (List α):=or_ (qs7 (slice e d) w0) (slice e dm) rfl
end Kd
namespace Kd
theorem qhb {α:Type} {R:α→List Value→Prop} {size:Nat} {ps qs:List α} {cs ds:List Value} (h:Reps R size ps cs) (h':Reps R size qs ds):Reps R size (ps++qs) (cs++ds):=by
 refine ⟨by rw [List.length_append,List.length_append,h.1,h'.1,Nat.add_mul],fun j p hj => ?_⟩
 rcases Nat.lt_or_ge j ps.length with hlt|hge
 ·
  rw [List.getElem?_append_left hlt] at hj
  have hle:j*size+size≤cs.length:=by rw [h.1,← Nat.succ_mul];exact Nat.mul_le_mul_right _ hlt
  rw [List.drop_append_of_le_length (by omega),List.take_append_of_le_length (by rw [List.length_drop];omega)]
  exact h.2 j p hj
 rw [List.getElem?_append_right hge] at hj
 have h2:=h'.2 (j-ps.length) p hj
 have hle:ps.length*size≤j*size:=Nat.mul_le_mul_right _ hge
 rw [List.drop_append,List.drop_eq_nil_of_le (by rw [h.1];exact hle),List.nil_append,h.1,← Nat.sub_mul]
 exact h2
section
variable {P:Program} {ops:Array Oper} {rest:List Oper} {o:Oper} {a:Act} {Q:Exit→Act→World→Prop} {α:Type}
theorem R_append_rows (d:Kd α) {Rr:α→List Value→Prop} {w0 W:World} (base:Nat) (hgd:o.guard=none) (s x:Operand) (t e:TypeId) (z:Value) (bytes:Nat)
  (ho:o.op = .call { callee:=.builtin .append,args:=#[s,x],argTypes:=#[t,t] })
  (ht:P.underlying t=some (.slice e)) (hinfo:(P.info? e).map (fun i=>(i.zero,i.size,i.bytes))=some (some z,d.sz,bytes)) (hz:z.cells.size=d.sz) (hs0:0<d.sz) (hb0:0<bytes)
  (v:Value) (xs ys:List α) (A:Option Addr) (m c:Nat) (ok okp:Nat→Prop) (hs:a.eval s=v) (hx:a.eval x = .slice A m c)
  (HO:d.R e W base ok v xs) (HR:Ge Rr d.sz W A m ys) (hKM:∀ x cs,Rr x cs→d.M W base okp x cs) (hokp:∀ k,okp k→ok k∧some k≠v.ownBlock) (hfresh:∀ k,W.heap.size≤k→ok k)
  (HB:Below base w0 W) (hbase:base≤W.heap.size) (hl:(xs.length+m)*bytes≤140737488355328)
  (h:∀ v1 w1,d.R e w1 base ok v1 (xs++ys)→Below base w0 w1→W.grownBy w1 v.ownBlock→(v1.ownBlock=v.ownBlock ∨ ∃ b,v1.ownBlock=some b∧W.heap.size≤b)→wpList P ops Q rest (a.put o.dst v1) w1) :
  wpList P ops Q (o::rest) a W:=by
 obtain ⟨i0,hi,hzz⟩:=Option.map_eq_some_iff.1 hinfo
 simp only [Prod.mk.injEq] at hzz
 obtain ⟨hz0,hz1,hz2⟩:=hzz
 have hm:ys.length=m:=HR.1
 have hlen:xs.length+m≤140737488355328:=Nat.le_trans (Nat.le_mul_of_pos_right _ hb0) hl
 obtain ⟨hok,inner,hown,hr⟩:=HO
 have hrun:∃ v1 w1,(Builtin.append_ #[t,t] o.type #[v,.slice A m c]).run P W = .ok v1 w1∧d.R e w1 base ok v1 (xs++ys)∧W.grownBy w1 v.ownBlock∧(v1.ownBlock=v.ownBlock ∨ ∃ b,v1.ownBlock=some b∧W.heap.size≤b):=by
  rcases A with _|ad
  ·
   have h0:m=0:=by
    rcases Nat.eq_zero_or_pos m with h0|h0
    ·
     exact h0
    obtain ⟨ad,h,_⟩:=HR.2.2 h0;cases h
   subst h0
   obtain rfl:ys=[]:=List.eq_nil_of_length_eq_zero hm
   refine ⟨v,W,?_,by rw [List.append_nil];exact ⟨hok,inner,hown,hr⟩,World.grownBy.refl W _,.inl rfl⟩
   rcases hown.2 with ⟨rfl,hn⟩|⟨g,cap,cur,rfl,_,_,hnc,_⟩
   ·
    simp [Builtin.append_,run_underlying ht,sizeOf,typeInfo,hi,Builtin.lenOf,Builtin.firstCells]
   simp [Builtin.append_,run_underlying ht,sizeOf,typeInfo,hi,Builtin.lenOf,Builtin.firstCells,hnc,storeCells]
  obtain ⟨news,hnr,hnc⟩:=Ge.inner_ HR
  have hnM:Reps (d.M W base okp) d.sz ys news:=hnr.imp_ (fun p c hp=>hKM p c hp)
  have hone:∀ u∈news,u.oneCell'=true:=by
   intro u hu
   obtain ⟨q,hq,rfl⟩:=List.mem_iff_getElem.1 hu
   have hql:q / d.sz<ys.length:=by
    rw [Nat.div_lt_iff_lt_mul hs0];rw [← hnM.1]
    exact hq
   have hc:=hnM.2 (q / d.sz) _ (List.getElem?_eq_getElem hql)
   refine d.K_one (d.K_of_M hc) _ ?_
   rw [List.mem_iff_getElem?]
   refine ⟨q % d.sz,?_⟩
   rw [List.getElem?_take,if_pos (Nat.mod_lt _ hs0),List.getElem?_drop,Nat.mul_comm,Nat.div_add_mod,List.getElem?_eq_getElem hq]
  obtain ⟨v1,w1,hrun,h2,hg,_,hat⟩:=run_append_own_at (P:=P) W base t o.type e i0 z d.sz bytes ht hi hz0 hz1 hz2 hz hs0 v xs.length inner hown ad m c news (by rw [hnM.1,hm]) hnc hone (by simp only [maxLen];omega) hl hbase
  have hat':v1.ownBlock=v.ownBlock ∨ ∃ b,v1.ownBlock=some b∧W.heap.size≤b:=by
   rcases hat with hat|hat
   ·
    exact .inl hat
   exact .inr ⟨_,hat,Nat.le_refl _⟩
  have hne:∀ k,some k≠v.ownBlock→k<W.heap.size→some k≠v1.ownBlock:=by
   intro k hk hlt
   rcases hat' with hat|⟨b,hb,hle⟩
   ·
    rw [hat];exact hk
   rw [hb]
   intro he
   injection he with he
   omega
  have step:∀ {q:α} {c:List Value} {o:Nat→Prop},d.M W base o q c→(∀ k,o k→ok k∧some k≠v.ownBlock)→d.M w1 base (fun k=>ok k∧some k≠v1.ownBlock) q c:=by
   intro q c o hq ho
   have h1:=d.M_move (w1:=w1) (fun k hk=>hg.block k hk.2.2.1 (ho k hk.1).2) (d.M_bound hq)
   exact d.M_mono (fun k hk=>⟨(ho k hk.1).1,hne k (ho k hk.1).2 hk.2.2.1⟩) h1
  refine ⟨v1,w1,hrun,⟨fun k hk => ?_,inner++news,by rw [List.length_append,hm];exact h2,qhb (hr.imp_ (fun _ _ hq=>step hq (fun _ hk=>hk))) (hnM.imp_ (fun _ _ hq=>step hq hokp))⟩,hg,hat'⟩
  rcases hat' with hat|⟨b,hb,hle⟩
  ·
   exact hok k (hat ▸ hk)
  rw [hb] at hk
  injection hk with hk
  exact hfresh k (by omega)
 obtain ⟨v1,w1,hr1,h1,hg,hat⟩:=hrun
 refine wpList_plain hgd fun K hK => ?_
 unfold Oper.wp execOp
 simp only [ho,resolve,invoke,builtin,Sem.run_bind,Sem.run_pure,Result.andThen_ok,List.map_toArray,List.map_cons,List.map_nil,hs,hx,hr1]
 exact hK _ _ (h v1 w1 h1 (HB.grown hg hbase (Xu hown)) hg hat)
end
end Kd
theorem qeg {P:Program} {w:World} {g o:Nat} {e:TypeId} {cur:Array Value} (t:TypeId) (u:Value) (seg:List Value) (hh:w.heap[g]? = some (.cells cur e (0,0))) (hu:u.cells.toList=seg) (ht:(P.info? t).map (·.size)=some seg.length)
  (hfit:o+seg.length≤cur.size) (h1:∀ q∈seg,q.oneCell'=true):(Instr.storeAt t (.pointer (some ⟨g,o,none⟩)) u).run P w = .ok () (w.setCells g o seg):=by
 obtain ⟨i,hi,hsz⟩:=Option.map_eq_some_iff.1 ht
 have hc:u.cells.size=i.size:=by rw [hsz,← hu,Array.length_toList]
 have hst:=run_storeCells_cells (P:=P) g o seg 0 w (fun j hj=>by rw [cell_of_row w g _ cur e (0,0) hh];simp;omega) (fun j _=>Qc hh _) h1
 simp only [Nat.add_zero] at hst
 simp [Instr.storeAt,Instr.sureAddr,storeVar,sizeOf,typeInfo,hi,hc,hu,hst]
theorem qs8 {P:Program} {ops:Array Oper} {rest:List Oper} {o:Oper} {a:Act} {Q:Exit→Act→World→Prop} {W:World} (op:Op) (_ho:o.op=op) (h:wpList P ops Q (o::rest) a W):wpList P ops Q (o::rest) a W:=h
namespace Kd
section
variable {P:Program} {ops:Array Oper} {rest:List Oper} {o:Oper} {a:Act} {Q:Exit→Act→World→Prop} {α:Type}
theorem R_store (d:Kd α) {w0 W:World} (base:Nat) (hN:o.dst=none) (hgd:o.guard=none) (t:TypeId) (p x:Operand) (ho:o.op = .store t p x) (e:TypeId) {g n cap o':Nat} (i:Int) (j:Nat) (xs:List α) (x':α) (u:Value) (seg c:List Value) (ok okp:Nat→Prop)
  (haddr:a.eval p = .pointer (some ⟨g,o',none⟩)) (hoff:o'=i.toNat*d.sz+j) (hx:a.eval x=u) (hu:u.cells.toList=seg) (ht:(P.info? t).map (·.size)=some seg.length) (h1:∀ q∈seg,q.oneCell'=true)
  (HO:d.R e W base ok (.slice (some ⟨g,0,none⟩) n cap) xs) (h0:0≤i) (hi:i<n) (hcl:c.length=d.sz) (hcc:∀ j u,c[j]? = some u→W.cell? ⟨g,i.toNat*d.sz+j,none⟩=some u)
  (hj:j+seg.length≤d.sz) (hM:d.M W base okp x' (c.take j++seg++c.drop (j+seg.length))) (hokp:∀ k,okp k→ok k∧k≠g) (HB:Below base w0 W)
  (h:∀ w1,d.R e w1 base ok (.slice (some ⟨g,0,none⟩) n cap) (xs.set i.toNat x')→Below base w0 w1→W.grownBy w1 (some g)→wpList P ops Q rest a w1):wpList P ops Q (o::rest) a W:=by
 subst hoff
 obtain ⟨hrow,hg⟩:=qsu HO i h0 hi hcl hcc hj hM hokp
 have hbg:base≤g:=R_base HO g (by simp [Value.ownBlock])
 have hnx:n=xs.length:=(R_reads' HO).1
 obtain ⟨_,inner,hown,hr⟩:=HO
 have hil:i.toNat<n:=by omega
 have hB:Below base w0 (W.setCells g (i.toNat*d.sz+j) seg):=HB.trans ⟨hg.os,hg.tape,hg.output,hg.size,fun k hk=>by
  have hlt:k<W.heap.size∨W.heap.size≤k:=Nat.lt_or_ge _ _
  rcases hlt with hlt|hge
  ·
   exact hg.block k hlt (fun he=>by injection he with he;omega)
  exact X8 seg _ k (by omega)⟩
 refine wpList_plain hgd fun K hK => ?_
 have hrun:(Instr.storeAt t (.pointer (some ⟨g,i.toNat*d.sz+j,none⟩)) u).run P W = .ok () (W.setCells g (i.toNat*d.sz+j) seg):=by
  rcases hown.2 with ⟨hv,_⟩|⟨g',cap',cur,hv,hb,hh,hnc,hcm,hcs,_⟩
  ·
   cases hv
  injection hv with ha _ hc
  injection ha with ha
  injection ha with hg'
  subst hg';subst hc
  refine qeg t u seg hh hu ht ?_ h1
  have h2:i.toNat*d.sz+d.sz≤n*d.sz:=by rw [← Nat.succ_mul];exact Nat.mul_le_mul_right _ hil
  have h3:n*d.sz≤cap*d.sz:=Nat.mul_le_mul_right _ (by omega)
  omega
 unfold Oper.wp execOp
 simp only [ho,haddr,hx,Sem.run_bind,Sem.run_pure,Result.andThen_ok,hrun]
 show K (a.put o.dst undef) _
 rw [hN]
 exact hK a _ (h _ hrow hB hg)
end
end Kd
theorem add_add (a:Addr) (i j:Nat):(a.add i).add j=a.add (i+j):=by
 unfold Addr.add
 by_cases h1:i=0<;>by_cases h2:j=0<;>simp [h1,h2,Nat.add_assoc]
theorem Qq {w W:World} (h:Below w.heap.size w W):w.heap.size≤W.heap.size:=h.size
theorem Qx {w W w2:World} (h:Below w.heap.size w W) (k:Below W.heap.size W w2):Below w.heap.size w w2:=qhO h h.size k
theorem Q5 {w W:World} {g j:Nat} {v:Value} (h:Below w.heap.size w W) (hg:w.heap.size≤g):Below w.heap.size w (W.setCell ⟨g,j,none⟩ v):=h.setCell hg _
theorem qrD {w W:World} {g:Nat} (h:qns w W g none) {a:Addr} {v:Value} (hc:w.cell? a=some v) (hne:a.block≠g):W.cell? a=some v:=by
 have:=h.2 a.block (World.block_lt_of_cell? w a hc) hne (by simp)
 simpa [World.cell?,this] using hc
theorem Qr (a:Addr) (i:Nat):(a.add i).block=a.block:=by unfold Addr.add;split<;>rfl
theorem Qw {W:World} {p a:Addr} (h:a.block≠p.block) (u:Value):(W.setCell p u).cell? a=W.cell? a:=by
 have:=Below.heap_setCell W p u a.block h
 simp [World.cell?,this]
theorem QJ {w:World} {g:Nat} {t:TypeId} {cs cs':Array Value} (h:w.heap[g]? = some (.cells cs t (0,0))) (i:Nat) (u:Value) (e:cs.setIfInBounds i u=cs'):(w.setCell ⟨g,i,none⟩ u).heap[g]? = some (.cells cs' t (0,0)):=e ▸ qjt h i u
theorem Qa {base:Nat} {w W:World} (h:Below base w W):Below base w W.drew:=h.drew
namespace Kd
section
variable {α:Type} {d:Kd α} {e base g:Nat} {ok:Nat→Prop} {w w1:World} {v:Value} {xs:List α} {o:Obj}
theorem freshB (hb:w.heap[g]? = some o):∀ k,w.heap.size≤k→k≠g:=fun k hk=>by have:=QY hb;omega
end
end Kd
section
variable {P:Program} {ops:Array Oper} {rest:List Oper} {o:Oper} {a:Act} {Q:Exit→Act→World→Prop}
theorem YD {W:World} (hgd:o.guard=none) {N:Tmp} (_hd:o.dst=some N) {cs:Array Value} {t:TypeId}
  (hrun:(execOp a.eval o).run P W = .ok (.value (.pointer (some ⟨W.heap.size,0,none⟩))) (W.alloc (.cells cs t (0,0))))
  (h:∀ g,g=W.heap.size → ∀ w1,w1.heap[g]? = some (.cells cs t (0,0))→Below W.heap.size W w1→wpList P ops Q rest (a.put o.dst (.pointer (some ⟨g,0,none⟩))) w1):wpList P ops Q (o::rest) a W :=
 Kd.event_run hgd hrun (h _ rfl _ (UA W _) (Q4 (Below.refl _ _) _))
end
namespace Kd
section
variable {α:Type} {enc:α→Value} {h1:∀ x,(enc x).oneCell'=true} {e base g n cap:Nat} {ok:Nat→Prop} {W:World} {xs:List α}
theorem R_celln (d:α) (h:(scalar enc h1).R e W base ok (.slice (some ⟨g,0,none⟩) n cap) xs) (i:Int) (h0:0≤i) (hi:i<n):W.cell? ⟨g,i.toNat,none⟩=some (enc (rdOf d xs i))∧W.frozen? ⟨g,i.toNat,none⟩=false:=by
 obtain ⟨rfl,_⟩:=R_reads' h
 exact qqJ d h i h0 hi
theorem R_putn (h:(scalar enc h1).R e W base ok (.slice (some ⟨g,0,none⟩) n cap) xs) (i:Int) (x:α):(scalar enc h1).R e (W.setCell ⟨g,i.toNat,none⟩ (enc x)) base ok (.slice (some ⟨g,0,none⟩) n cap) (xs.set i.toNat x):=by
 obtain ⟨rfl,_⟩:=R_reads' h
 exact (qpW h i x).1
end
end Kd
namespace Kd
section
variable {α:Type} {enc:α→Value} {h1:∀ x,(enc x).oneCell'=true} {e base g n cap:Nat} {ok:Nat→Prop} {W:World} {xs:List α}
theorem R_putg (h:(scalar enc h1).R e W base ok (.slice (some ⟨g,0,none⟩) n cap) xs) (i:Int) (x:α):(scalar enc h1).R e (W.setCell ⟨g,i.toNat,none⟩ (enc x)) base ok (.slice (some ⟨g,0,none⟩) n cap) (xs.set i.toNat x)∧W.grownBy (W.setCell ⟨g,i.toNat,none⟩ (enc x)) (some g):=by
 obtain ⟨rfl,_⟩:=R_reads' h
 exact qpW h i x
end
end Kd
section
variable {P:Program} {ops:Array Oper} {rest:List Oper} {o:Oper} {a:Act} {Q:Exit→Act→World→Prop} {W:World}
theorem Ya {N:Tmp} (_hN:o.dst=some N) (h:wpList P ops Q (o::rest) a W):wpList P ops Q (o::rest) a W:=h
end
section
variable {P:Program} {ops:Array Oper} {o:Oper} {a:Act} {Q:Exit→Act→World→Prop} {Kc:Act→World→Prop}
theorem qhY {W w1:World} {v:Value} (hw:Region.wanted o (yielded ops a.tmps)=true) (hrun:(execOp a.eval o).run P W = .ok (.value v) w1) (h:Kc (a.put o.dst v) w1):if Region.wanted o (yielded ops a.tmps)=true then Oper.wp P o a W Kc Q else Kc (a.put o.dst undef) W:=by
 rw [if_pos hw]
 unfold Oper.wp
 rw [hrun]
 exact h
theorem qaX {W:World} (hw:Region.wanted o (yielded ops a.tmps)=true) {N:Tmp} (_hd:o.dst=some N) {cs:Array Value} {t:TypeId}
  (hrun:(execOp a.eval o).run P W = .ok (.value (.pointer (some ⟨W.heap.size,0,none⟩))) (W.alloc (.cells cs t (0,0))))
  (h:∀ g,g=W.heap.size → ∀ w1,w1.heap[g]? = some (.cells cs t (0,0))→Below W.heap.size W w1→Kc (a.put o.dst (.pointer (some ⟨g,0,none⟩))) w1):if Region.wanted o (yielded ops a.tmps)=true then Oper.wp P o a W Kc Q else Kc (a.put o.dst undef) W :=
 qhY hw hrun (h _ rfl _ (UA W _) (Q4 (Below.refl _ _) _))
end
inductive Vals (P:Program) (tmps:Array Value) (w:World):List ResultVar→List Value→Prop where
 | nil:Vals P tmps w [] []
 | tmp {u:Tmp} {rs:List ResultVar} {vs:List Value} (h:Vals P tmps w rs vs):Vals P tmps w (.tmp u::rs) (tmps.getD u undef::vs)
 | cell {p:Tmp} {ty:TypeId} {rs:List ResultVar} {vs:List Value} (g:Nat) (t:TypeId) (cs:Array Value) (fr:Nat × Nat) (d:TypeDesc)
   (hp:tmps.getD p undef = .pointer (some ⟨g,0,none⟩)) (hg:w.heap[g]? = some (.cells cs t fr))
   (hu:P.underlying ty=some d) (hd:(match d with | .struct _ | .array _ _=>true|_=>false)=true) (hi:(P.info? ty).map (·.size)=some cs.size)
   (h:Vals P tmps w rs vs):Vals P tmps w (.cell p ty::rs) (.agg cs::vs)
section
variable {P:Program} {tmps:Array Value} {w:World}
theorem qna {rs:List ResultVar} {vs:List Value} (hv:Vals P tmps w rs vs) (f:ResultVar→Sem Value) (hf:∀ u,f (.tmp u)=pure (tmps.getD u undef)) (hc:∀ a t,f (.cell a t)=(do loadVar t (← asAddr (tmps.getD a undef)))) :
  (rs.mapM f).run P w = .ok vs w:=by
 induction hv with
 | nil=>simp
 | tmp h ih=>simp [List.mapM_cons,hf,ih]
 | cell g t cs fr d hp hg hu hd hi h ih =>
  rw [List.mapM_cons,hc,hp]
  simp [asAddr,run_loadVar_row w g t _ cs fr d hg hu hd hi,ih]
theorem Uj {fn:Func} {rs:List ResultVar} {vs:List Value} (h:fn.results=rs.toArray) (hl:vs.length≠1) (hv:Vals P tmps w rs vs):(results fn tmps).run P w = .ok (.tuple vs.toArray) w:=by
 unfold results
 rw [h,List.mapM_toArray]
 simp only [Sem.run_bind,Sem.run_map]
 rw [qna hv]
 ·
  simp [hl]
 ·
  intro u
  rfl
 intro a t
 rfl
end
end Go.Proofs.YtmhomdohhihlcaaW.PrintWords
namespace Go.Proofs.YtmhomdohhihlcaaW.PrintLast
section
variable {P:Program} {ops:Array Oper} {Q:Exit→Act→World→Prop} {md:Region.Mode} {S:World→Prop} {ds:List Nat}
def Region.reachB (md:Region.Mode) (ops:Array Oper) (i:Nat):Nat→Nat→Bool
 | 0,_=>false
 | fuel+1,d=>match ops[d]? with
  | some o=>o.after.any fun e=>Region.binds md e&&(e.on==i||Region.reachB md ops i fuel e.on)
  | none=>false
def Region.closedB (md:Region.Mode) (ops:Array Oper) (listed:Array Bool):Bool :=
 (List.range ops.size).all fun j => !listed.getD j false||match ops[j]? with
  | some o=>o.after.all fun e => !Region.binds md e||listed.getD e.on false
  | none=>true
def Region.lastB (md:Region.Mode) (ops:Array Oper) (listed:Array Bool) (ds:List Nat) (i:Nat):Bool :=
 ds.all fun d=>listed.getD d true||Region.reachB md ops i ops.size d
def GD (md:Region.Mode) (ops:Array Oper) (listed:Array Bool):Prop :=
 ∀ j oj,ops[j]? = some oj→listed.getD j false=true → ∀ e∈oj.after,Region.binds md e=true→listed.getD e.on false=true
theorem Region.closedB_spec {listed:Array Bool} (h:Region.closedB md ops listed=true):GD md ops listed:=by
 intro j oj hj hl e he hb
 have hlt:j<ops.size:=(Array.getElem?_eq_some_iff.1 hj).1
 have h1:=List.all_eq_true.1 h j (List.mem_range.2 hlt)
 simp only [hl,hj,Bool.not_true,Bool.false_or] at h1
 have h2:=Array.all_eq_true_iff_forall_mem.1 h1 e he
 simpa [hb] using h2
theorem GD.set {listed:Array Bool} {i:Nat} (h:GD md ops listed) (hi:i∈Region.ready md ops listed):GD md ops (listed.setIfInBounds i true):=by
 obtain ⟨_,oi,hoi,hall⟩:=mem_ready.1 hi
 intro j oj hj hl e he hb
 by_cases hij:i=j
 ·
  subst hij
  have:oj=oi:=Option.some.inj (hj.symm.trans hoi)
  subst this
  exact getD_set_true (hall e he hb)
 rw [getD_set_ne false hij] at hl
 exact getD_set_true (h j oj hj hl e he hb)
theorem Region.reach_listed {listed:Array Bool} {i:Nat} (hc:GD md ops listed):∀ (fuel d:Nat),Region.reachB md ops i fuel d=true→listed.getD d false=true→listed.getD i false=true
 | 0,_,h,_=>by simp [Region.reachB] at h
 | fuel+1,d,h,hl=>by
  unfold Region.reachB at h
  cases ho:ops[d]? with
  | none=>rw [ho] at h;simp at h
  | some o =>
   rw [ho] at h
   obtain ⟨e,he,h1⟩:=Array.any_eq_true'.1 h
   simp only [Bool.and_eq_true,Bool.or_eq_true,beq_iff_eq] at h1
   have hle:=hc d o ho hl e he h1.1
   rcases h1.2 with h2|h2
   ·
    rw [← h2];exact hle
   exact Region.reach_listed hc fuel e.on h2 hle
theorem Region.reach_not_ready {listed:Array Bool} {i d fuel:Nat} (hc:GD md ops listed) (hr:Region.reachB md ops i fuel d=true) (hun:listed.getD i true=false):d ∉ Region.ready md ops listed:=by
 intro hd
 obtain ⟨_,o,ho,hall⟩:=mem_ready.1 hd
 have hi:listed.getD i false=true:=by
  cases fuel with
  | zero=>simp [Region.reachB] at hr
  | succ n =>
   unfold Region.reachB at hr
   rw [ho] at hr
   obtain ⟨e,he,h1⟩:=Array.any_eq_true'.1 hr
   simp only [Bool.and_eq_true,Bool.or_eq_true,beq_iff_eq] at h1
   have hle:=hall e he h1.1
   rcases h1.2 with h2|h2
   ·
    rw [← h2];exact hle
   exact Region.reach_listed hc n e.on h2 hle
 rcases Nat.lt_or_ge i listed.size with h'|h'
 ·
  simp [h'] at hun hi
  rw [hun] at hi
  cases hi
 simp [Array.getElem?_eq_none h'] at hun
def YH (P:Program) (md:Region.Mode) (ops:Array Oper) (Q:Exit→Act→World→Prop) (S:World→Prop) (ds:List Nat):Nat→Array Bool→Act→World→Prop
 | 0,listed,a,w=>Region.ready md ops listed=[]∧Q .normal a w
 | fuel+1,listed,a,w =>
  (Region.ready md ops listed=[]→Q .normal a w) ∧
  ∀ i∈Region.ready md ops listed,wpOp P ops Q i (fun a' w'=>(i ∉ ds→S w→S w')∧YH P md ops Q S ds fuel (listed.setIfInBounds i true) a' w') a w
theorem qan:∀ (fuel:Nat) (listed:Array Bool) (a:Act) (w:World),YH P md ops Q S ds fuel listed a w→wpAny P md ops Q fuel listed a w
 | 0,_,_,_,h=>h
 | fuel+1,_,_,_,h=>⟨h.1,fun i hi=>wpOp_mono (fun a' w' h'=>qan fuel _ a' w' h'.2) (h.2 i hi)⟩
theorem qcv {i:Nat} {oi:Oper} {v:Value} (hi:ops[i]? = some oi) (hsel:∀ (j:Nat) (o:Oper) cs b,ops[j]? = some o→o.op ≠ .select cs b)
  (hQ:∀ c a w,Q (.panic c) (a.put oi.dst v) w→Q (.panic c) a w) (n:Nat) :
  ∀ (fuel:Nat) (listed:Array Bool) (a:Act) (w:World),
   (∀ j oj,ops[j]? = some oj→j≠i→listed.getD j true=false→(∀ e∈oj.after,Region.binds md e=true→e.on≠i)→oi.apart ops oj=true) →
   GD md ops listed→(∀ d∈ds,listed.getD d true=false→Region.reachB md ops i n d=true) →
   i∈Region.ready md ops listed→YieldsIf P ops S oi v a→S w →
   YH P md ops Q S ds fuel (listed.setIfInBounds i true) (a.put oi.dst v) w→YH P md ops Q S ds (fuel+1) listed a w:=by
 intro fuel
 induction fuel with
 | zero =>
  intro listed a w _ _ _ hr hy hS H
  refine ⟨fun h=>(by rw [h] at hr;cases hr),fun j hj => ?_⟩
  by_cases hji:j=i
  ·
   subst hji;exact hy.wpOp hi hS ⟨fun _ h=>h,H⟩
  have:=ready_mono hj hji
  rw [H.1] at this
  cases this
 | succ fuel ih =>
  intro listed a w hfree hc hd hr hy hS H
  refine ⟨fun h=>(by rw [h] at hr;cases hr),fun j hj => ?_⟩
  by_cases hji:j=i
  ·
   subst hji;exact hy.wpOp hi hS ⟨fun _ h=>h,H⟩
  have h1:=H.2 j (ready_mono hj hji)
  obtain ⟨hjun,oj,hoj,hall⟩:=mem_ready.1 hj
  have hiun:=(mem_ready.1 hr).1
  have hnot:∀ e∈oj.after,Region.binds md e=true→e.on≠i:=fun e he hb heq=>by
   have h1:=hall e he hb
   rw [heq] at h1
   rcases Nat.lt_or_ge i listed.size with h'|h'
   ·
    simp [h'] at hiun h1;rw [hiun] at h1;cases h1
   simp [Array.getElem?_eq_none h'] at h1
  have hjd:j ∉ ds:=fun hm=>Region.reach_not_ready hc (hd j hm hjun) hiun hj
  have h2:=wpOp_putIf hoj (hfree j oj hoj hji hjun hnot) (fun cs b=>hsel i oi cs b hi) (fun cs b=>hsel j oj cs b hoj) hQ hy h1
  have hfree':∀ k ok,ops[k]? = some ok→k≠i→(listed.setIfInBounds j true).getD k true=false →
    (∀ e∈ok.after,Region.binds md e=true→e.on≠i)→oi.apart ops ok=true:=fun k ok hk hki hun hno=>by
   refine hfree k ok hk hki ?_ hno
   by_cases hjk:j=k
   ·
    subst hjk;exact hjun
   rw [getD_set_ne true hjk] at hun;exact hun
  have hd':∀ d∈ds,(listed.setIfInBounds j true).getD d true=false→Region.reachB md ops i n d=true:=fun d hm hun=>by
   refine hd d hm ?_
   by_cases hjk:j=d
   ·
    subst hjk;exact hjun
   rw [getD_set_ne true hjk] at hun;exact hun
  refine wpOp_mono (fun a' w' h3=>⟨h3.2.1,ih (listed.setIfInBounds j true) a' w' hfree' (hc.set hj) hd' (ready_mono hr (Ne.symm hji)) h3.1 (h3.2.1 hjd hS) ?_⟩) h2
  rw [Array.setIfInBounds_comm _ _ hji]
  exact h3.2.2
theorem qer {i:Nat} {oi:Oper} {v:Value} (hi:ops[i]? = some oi) (hsel:∀ (j:Nat) (o:Oper) cs b,ops[j]? = some o→o.op ≠ .select cs b)
  (hQ:∀ c a w,Q (.panic c) (a.put oi.dst v) w→Q (.panic c) a w) :
  ∀ (fuel:Nat) (listed:Array Bool) (a:Act) (w:World),
   (∀ j oj,ops[j]? = some oj→j≠i→listed.getD j true=false→(∀ e∈oj.after,Region.binds md e=true→e.on≠i)→oi.apart ops oj=true) →
   i∈Region.ready md ops listed→Yields P ops oi v a →
   YH P md ops Q S ds fuel (listed.setIfInBounds i true) (a.put oi.dst v) w→YH P md ops Q S ds (fuel+1) listed a w:=by
 intro fuel
 induction fuel with
 | zero =>
  intro listed a w _ hr hy H
  refine ⟨fun h=>(by rw [h] at hr;cases hr),fun j hj => ?_⟩
  by_cases hji:j=i
  ·
   subst hji;exact (hy.yieldsIf (S:=fun _=>True)).wpOp hi trivial ⟨fun _ h=>h,H⟩
  have:=ready_mono hj hji
  rw [H.1] at this
  cases this
 | succ fuel ih =>
  intro listed a w hfree hr hy H
  refine ⟨fun h=>(by rw [h] at hr;cases hr),fun j hj => ?_⟩
  by_cases hji:j=i
  ·
   subst hji;exact (hy.yieldsIf (S:=fun _=>True)).wpOp hi trivial ⟨fun _ h=>h,H⟩
  have h1:=H.2 j (ready_mono hj hji)
  obtain ⟨hjun,oj,hoj,hall⟩:=mem_ready.1 hj
  have hiun:=(mem_ready.1 hr).1
  have hnot:∀ e∈oj.after,Region.binds md e=true→e.on≠i:=fun e he hb heq=>by
   have h1:=hall e he hb
   rw [heq] at h1
   rcases Nat.lt_or_ge i listed.size with h'|h'
   ·
    simp [h'] at hiun h1;rw [hiun] at h1;cases h1
   simp [Array.getElem?_eq_none h'] at h1
  have h2:=wpOp_put hoj (hfree j oj hoj hji hjun hnot) (fun cs b=>hsel i oi cs b hi) (fun cs b=>hsel j oj cs b hoj) hQ hy h1
  have hfree':∀ k ok,ops[k]? = some ok→k≠i→(listed.setIfInBounds j true).getD k true=false →
    (∀ e∈ok.after,Region.binds md e=true→e.on≠i)→oi.apart ops ok=true:=fun k ok hk hki hun hno=>by
   refine hfree k ok hk hki ?_ hno
   by_cases hjk:j=k
   ·
    subst hjk;exact hjun
   rw [getD_set_ne true hjk] at hun;exact hun
  refine wpOp_mono (fun a' w' h3=>⟨h3.2.1,ih (listed.setIfInBounds j true) a' w' hfree' (ready_mono hr (Ne.symm hji)) h3.1 ?_⟩) h2
  rw [Array.setIfInBounds_comm _ _ hji]
  exact h3.2.2
theorem qd4 {i:Nat} {oi:Oper} {v:Value} {fuel:Nat} {listed:Array Bool} {a:Act} {w:World} (hi:ops[i]? = some oi)
  (hs:Region.noSelect ops=true) (hf:Region.free md ops listed i=true) (hr:(Region.ready md ops listed).contains i=true)
  (hc:Region.closedB md ops listed=true) (hl:Region.lastB md ops listed ds i=true)
  (hQ:∀ c a w,Q (.panic c) (a.put oi.dst v) w→Q (.panic c) a w) (hy:YieldsIf P ops S oi v a) (hS:S w)
  (h:YH P md ops Q S ds fuel (listed.setIfInBounds i true) (a.put oi.dst v) w):YH P md ops Q S ds (fuel+1) listed a w :=
 qcv hi (Region.noSelect_spec hs) hQ ops.size fuel listed a w (Region.free_spec hi hf) (Region.closedB_spec hc)
  (fun d hm hun=>by have:=List.all_eq_true.1 hl d hm;rw [hun] at this;simpa using this) (by simpa using hr) hy hS h
theorem qeq {rs:List Nat} {fuel:Nat} {listed:Array Bool} {a:Act} {w:World} (hr:Region.ready md ops listed=rs) (hne:rs≠[])
  (h:∀ i∈rs,wpOp P ops Q i (fun a' w'=>(i ∉ ds→S w→S w')∧YH P md ops Q S ds fuel (listed.setIfInBounds i true) a' w') a w):YH P md ops Q S ds (fuel+1) listed a w :=
 ⟨fun h0=>absurd (hr ▸ h0) hne,hr ▸ h⟩
theorem qd3 {listed:Array Bool} {a:Act} {w:World} (hr:Region.ready md ops listed=[]) (h:Q .normal a w) :
  ∀ fuel,YH P md ops Q S ds fuel listed a w
 | 0=>⟨hr,h⟩
 | _+1=>⟨fun _=>h,by rw [hr];simp⟩
theorem qd7 {id:Nat} {a:Act} {w:World} (hm:P.follows .mixedOrders=true)
  (h:YH P .any ops Q S ds ops.size (Array.replicate ops.size false) a { w with drawn:=w.drawn+1 }):(Code.region id ops true).wp P Q a w :=
 wp_region_any hm (qan _ _ _ _ h)
end
section
variable {P:Program} {ops:Array Oper} {Q:Exit→Act→World→Prop} {md:Region.Mode} {S:World→Prop} {ds:List Nat}
def Jt (P:Program) (md:Region.Mode) (ops:Array Oper) (Q:Exit→Act→World→Prop) (S:World→Prop) (ds:List Nat) (fuel:Nat) (listed:Array Bool) (a:Act) (w:World) (rs:List Nat):Prop :=
 ∀ i∈rs,wpOp P ops Q i (fun a' w'=>(i ∉ ds→S w→S w')∧YH P md ops Q S ds fuel (listed.setIfInBounds i true) a' w') a w
theorem Jt.nil {fuel:Nat} {listed:Array Bool} {a:Act} {w:World}:Jt P md ops Q S ds fuel listed a w []:=fun _ h=>by cases h
theorem Jt.cons {fuel:Nat} {listed:Array Bool} {a:Act} {w:World} {i:Nat} {o:Oper} {rs:List Nat} (ho:ops[i]? = some o) (hd:i ∉ ds)
  (h:∀ K':Act→World→Prop,Shut (∀ a w,S w→(S w→YH P md ops Q S ds fuel (listed.setIfInBounds i true) a w)→K' a w)→if Region.wanted o (yielded ops a.tmps)=true then Oper.wp P o a w K' Q else K' (a.put o.dst undef) w)
  (hs:Jt P md ops Q S ds fuel listed a w rs):Jt P md ops Q S ds fuel listed a w (i::rs):=fun j hj=>by
 rcases List.mem_cons.1 hj with rfl|hj
 ·
  exact wpOp_step ho (fun K' hK=>h K' (fun a w hS hW=>hK a w ⟨fun _ _=>hS,hW hS⟩))
 exact hs j hj
theorem Jt.cons_last {fuel:Nat} {listed:Array Bool} {a:Act} {w:World} {i:Nat} {o:Oper} {rs:List Nat} (ho:ops[i]? = some o) (hd:i∈ds)
  (h:∀ K':Act→World→Prop,Shut (∀ a w,YH P md ops Q S ds fuel (listed.setIfInBounds i true) a w→K' a w)→if Region.wanted o (yielded ops a.tmps)=true then Oper.wp P o a w K' Q else K' (a.put o.dst undef) w)
  (hs:Jt P md ops Q S ds fuel listed a w rs):Jt P md ops Q S ds fuel listed a w (i::rs):=fun j hj=>by
 rcases List.mem_cons.1 hj with rfl|hj
 ·
  exact wpOp_step ho (fun K' hK=>h K' (fun a w hW=>hK a w ⟨fun hn=>absurd hd hn,hW⟩))
 exact hs j hj
theorem OW {rs:List Nat} {fuel:Nat} {listed:Array Bool} {a:Act} {w:World} (hr:Region.ready md ops listed=rs) (hne:rs≠[])
  (h:Jt P md ops Q S ds fuel listed a w rs):YH P md ops Q S ds (fuel+1) listed a w:=qeq hr hne h
theorem Km {id n:Nat} {a:Act} {w:World} (l:Array Bool) (hm:P.follows .mixedOrders=true) (hn:ops.size=n) (hl:Array.replicate n false=l) (hS:S w.drew)
  (h:S w.drew→YH P .any ops Q S ds n l a w.drew):(Code.region id ops true).wp P Q a w:=by
 subst hn
 subst hl
 exact qd7 hm (h hS)
def qeE (md:Region.Mode) (ops:Array Oper) (ds:List Nat) (l l':Array Bool) (i:Nat):Bool :=
 Region.noSelect ops&&Region.free md ops l i&&(Region.ready md ops l).contains i&&Region.closedB md ops l&&Region.lastB md ops l ds i&&(l.setIfInBounds i true==l')
theorem qm7 {i:Nat} {N:Option Tmp} {oi:Oper} {v:Value} {fuel:Nat} {l:Array Bool} {a:Act} {w:World} (l':Array Bool) (hi:ops[i]? = some oi) (hN:oi.dst=N) (hc:qeE md ops ds l l' i=true)
  (hQ:∀ c a w,Q (.panic c) (a.put oi.dst v) w→Q (.panic c) a w) (hy:YieldsIf P ops S oi v a) (hS:S w) {a':Act} (ha:a.put N v=a')
  (h:YH P md ops Q S ds fuel l' a' w):YH P md ops Q S ds (fuel+1) l a w:=by
 subst ha
 subst hN
 simp only [qeE,Bool.and_eq_true,beq_iff_eq] at hc
 obtain ⟨⟨⟨⟨⟨h1,h2⟩,h3⟩,h4⟩,h5⟩,h6⟩:=hc
 subst h6
 exact qd4 hi h1 h2 h3 h4 h5 hQ hy hS h
def anyB (md:Region.Mode) (ops:Array Oper) (l l':Array Bool) (i:Nat):Bool :=
 Region.noSelect ops&&Region.free md ops l i&&(Region.ready md ops l).contains i&&(l.setIfInBounds i true==l')
theorem qkm {i:Nat} {N:Option Tmp} {oi:Oper} {v:Value} {fuel:Nat} {l:Array Bool} {a:Act} {w:World} (l':Array Bool) (hi:ops[i]? = some oi) (hN:oi.dst=N) (hc:anyB md ops l l' i=true)
  (hQ:∀ c a w,Q (.panic c) (a.put oi.dst v) w→Q (.panic c) a w) (hy:Yields P ops oi v a) {a':Act} (ha:a.put N v=a')
  (h:YH P md ops Q S ds fuel l' a' w):YH P md ops Q S ds (fuel+1) l a w:=by
 subst ha
 subst hN
 simp only [anyB,Bool.and_eq_true,beq_iff_eq] at hc
 obtain ⟨⟨⟨h1,h2⟩,h3⟩,h6⟩:=hc
 subst h6
 exact qer hi (Region.noSelect_spec h1) hQ fuel l a w (Region.free_spec hi h2) (by simpa using h3) hy h
def qb6 (md:Region.Mode) (ops:Array Oper) (l l':Array Bool) (i:Nat):Bool:=(Region.ready md ops l==[i])&&(l.setIfInBounds i true==l')
theorem one_ {i:Nat} {N:Option Tmp} {oi:Oper} {fuel:Nat} {l:Array Bool} {a:Act} {w:World} (l':Array Bool) (hi:ops[i]? = some oi) (hN:oi.dst=N) (hc:qb6 md ops l l' i=true) (hd:i ∉ ds)
  (h:∀ K:Act→World→Prop,Shut (∀ a' w',S w'→(S w'→YH P md ops Q S ds fuel l' a' w')→K a' w')→if Region.wanted oi (yielded ops a.tmps)=true then Oper.wp P oi a w K Q else K (a.put N undef) w) :
  YH P md ops Q S ds (fuel+1) l a w:=by
 subst hN
 simp only [qb6,Bool.and_eq_true,beq_iff_eq] at hc
 obtain ⟨h1,h2⟩:=hc
 subst h2
 exact OW h1 (by simp) (Jt.cons hi hd (fun K hK=>h K hK) Jt.nil)
theorem qqr {i:Nat} {N:Option Tmp} {oi:Oper} {fuel:Nat} {l:Array Bool} {a:Act} {w:World} (l':Array Bool) (hi:ops[i]? = some oi) (hN:oi.dst=N) (hc:qb6 md ops l l' i=true) (hd:i∈ds)
  (h:∀ K:Act→World→Prop,Shut (∀ a' w',YH P md ops Q S ds fuel l' a' w'→K a' w')→if Region.wanted oi (yielded ops a.tmps)=true then Oper.wp P oi a w K Q else K (a.put N undef) w) :
  YH P md ops Q S ds (fuel+1) l a w:=by
 subst hN
 simp only [qb6,Bool.and_eq_true,beq_iff_eq] at hc
 obtain ⟨h1,h2⟩:=hc
 subst h2
 exact OW h1 (by simp) (Jt.cons_last hi hd (fun K hK=>h K hK) Jt.nil)
theorem OQ {l:Array Bool} {a:Act} {w:World} {n:Nat} (hr:(Region.ready md ops l==[])=true) (h:Q .normal a w):YH P md ops Q S ds n l a w:=qd3 (by simpa using hr) h n
theorem two_ {i j:Nat} {Ni Nj:Option Tmp} {oi oj:Oper} {fuel:Nat} {l:Array Bool} {a:Act} {w:World} (li lj:Array Bool) (hi:ops[i]? = some oi) (hj:ops[j]? = some oj) (hNi:oi.dst=Ni) (hNj:oj.dst=Nj)
  (hc:(Region.ready md ops l==[i,j]&&l.setIfInBounds i true==li&&l.setIfInBounds j true==lj)=true) (hdi:i ∉ ds) (hdj:j ∉ ds)
  (h1:∀ K:Act→World→Prop,Shut (∀ a' w',S w'→(S w'→YH P md ops Q S ds fuel li a' w')→K a' w')→if Region.wanted oi (yielded ops a.tmps)=true then Oper.wp P oi a w K Q else K (a.put Ni undef) w)
  (h2:∀ K:Act→World→Prop,Shut (∀ a' w',S w'→(S w'→YH P md ops Q S ds fuel lj a' w')→K a' w')→if Region.wanted oj (yielded ops a.tmps)=true then Oper.wp P oj a w K Q else K (a.put Nj undef) w) :
  YH P md ops Q S ds (fuel+1) l a w:=by
 subst hNi
 subst hNj
 simp only [Bool.and_eq_true,beq_iff_eq] at hc
 obtain ⟨⟨h3,h4⟩,h5⟩:=hc
 subst h4
 subst h5
 exact OW h3 (by simp) (Jt.cons hi hdi (fun K hK=>h1 K hK) (Jt.cons hj hdj (fun K hK=>h2 K hK) Jt.nil))
def X7:Act→List (Tmp × Value)→Act
 | a,[]=>a
 | a,(n,v)::r=>X7 (a.put (some n) v) r
theorem qqp {σ:Type} {fuel:Nat} {l:Array Bool} {a:Act} {w:World} (fuel':Nat) (l':Array Bool) (ns:σ→List (Tmp × Value)) (F:σ→World→Prop)
  (hcont:∀ s w',F s w'→YH P md ops Q S ds fuel' l' (X7 a (ns s)) w')
  (h:(∀ s w',F s w'→YH P md ops Q S ds fuel' l' (X7 a (ns s)) w')→YH P md ops Q S ds fuel l a w):YH P md ops Q S ds fuel l a w:=h hcont
theorem Ka {fuel:Nat} {l:Array Bool} {a a':Act} {w:World} (ha:a=a') (h:YH P md ops Q S ds fuel l a' w):YH P md ops Q S ds fuel l a w:=by
 subst ha
 exact h
theorem ql4 {oi:Oper} {N:Option Tmp} {a:Act} {w:World} {K:Act→World→Prop} (f:FuncId) (args:Array Value) (hw:Region.wanted oi (yielded ops a.tmps)=true) (hN:oi.dst=N) (hrun:(execOp a.eval oi).run P w = .ok (.enter f args) w)
  (h:Calls P f args w fun e w' => ∃ v,e = .returned v∧K (a.put N v) w'):if Region.wanted oi (yielded ops a.tmps)=true then Oper.wp P oi a w K Q else K (a.put N undef) w:=by
 rw [if_pos hw]
 subst hN
 unfold Oper.wp
 rw [hrun,Oper.upon_enter]
 refine h.mono fun e w'' hh => ?_
 obtain ⟨v,rfl,hk⟩:=hh
 exact hk
theorem qaY {f : FuncId} {fn : Func} (hf : P.funcs[f]? = some fn) (hname : (fn.name == "runtime.NumGoroutine") = false) (hb : fn.body.isSome = true) (args : Array Value) (w : World) : (callFunc f args).run P w = .ok (.enter f args) w := by
 have h1 : fn.name ≠ "runtime.NumGoroutine" := by simpa using hname
 obtain ⟨c,hc⟩:=Option.isSome_iff_exists.1 hb
 simp [callFunc,hf,h1,hc]
theorem qa1 {oi : Oper} {N : Option Tmp} {a : Act} {w : World} {K : Act → World → Prop} {f : FuncId} {fn : Func} {aas : Array Operand} {ts : Array TypeId} (hf : P.funcs[f]? = some fn) (hname : (fn.name == "runtime.NumGoroutine") = false) (hb : fn.body.isSome = true) (args : Array Value)
  (hw:Region.wanted oi (yielded ops a.tmps)=true) (hN:oi.dst=N) (hop:oi.op = .call { callee:=.value (.func f),args:=aas,argTypes:=ts }) (hargs:aas.map a.eval=args)
  (h:Calls P f args w fun e w' => ∃ v,e = .returned v∧K (a.put N v) w'):if Region.wanted oi (yielded ops a.tmps)=true then Oper.wp P oi a w K Q else K (a.put N undef) w:=by
 refine ql4 f args hw hN ?_ h
 have he:=qaY hf hname hb args w
 unfold execOp
 simp [hop,resolve,Deferred.ofValue,invoke,Act.eval,hargs,he]
theorem YP {rest : List Oper} {oi : Oper} {a : Act} {w : World} (N : Option Tmp) (hd : oi.dst = N) (hg : oi.guard = none) {f : FuncId} {fn : Func} {aas : Array Operand} {ts : Array TypeId} (hf : P.funcs[f]? = some fn) (hname : (fn.name == "runtime.NumGoroutine") = false) (hb : fn.body.isSome = true) (args : Array Value)
  (hop:oi.op = .call { callee:=.value (.func f),args:=aas,argTypes:=ts }) (hargs:aas.map a.eval=args)
  (h:Calls P f args w fun e w' => ∃ v,e = .returned v∧wpList P ops Q rest (a.put N v) w'):wpList P ops Q (oi::rest) a w:=by
 refine wpList_plain hg fun K hK => ?_
 have he:=qaY hf hname hb args w
 have hrun:(execOp a.eval oi).run P w = .ok (.enter f args) w:=by
  unfold execOp
  simp [hop,resolve,Deferred.ofValue,invoke,Act.eval,hargs,he]
 unfold Oper.wp
 rw [hrun,Oper.upon_enter]
 refine h.mono fun e w'' hh => ?_
 obtain ⟨v,rfl,hk⟩:=hh
 subst hd
 exact hK _ _ hk
theorem qiW {oi:Oper} {N:Option Tmp} {a:Act} {w w1:World} {v:Value} {K:Act→World→Prop} (hw:Region.wanted oi (yielded ops a.tmps)=true) (hN:oi.dst=N) (hrun:(execOp a.eval oi).run P w = .ok (.value v) w1)
  (h:K (a.put N v) w1):if Region.wanted oi (yielded ops a.tmps)=true then Oper.wp P oi a w K Q else K (a.put N undef) w:=by
 rw [if_pos hw]
 subst hN
 unfold Oper.wp
 rw [hrun]
 exact h
theorem qhg {oi:Oper} {a:Act} {w w1:World} {K:Act→World→Prop} (hw:Region.wanted oi (yielded ops a.tmps)=true) (hN:oi.dst=none) (hrun:(execOp a.eval oi).run P w = .ok .skip w1)
  (h:K a w1):if Region.wanted oi (yielded ops a.tmps)=true then Oper.wp P oi a w K Q else K (a.put none undef) w:=by
 rw [if_pos hw]
 unfold Oper.wp
 rw [hrun]
 show K (a.put oi.dst undef) w1
 rw [hN]
 exact h
theorem Qj (n:Int):IntKind.i64.wrap n=Go.RowKit.wrap64 n:=by unfold Go.RowKit.wrap64;exact IntKind.wrap_i64 n
theorem Qk (n:Int):IntKind.i32.wrap n=Go.RowKit.wrap32 n:=by unfold Go.RowKit.wrap32;exact IntKind.wrap_i32 n
end
end Go.Proofs.YtmhomdohhihlcaaW.PrintLast
namespace Go.Proofs.YtmhomdohhihlcaaW.PrintLast
open Go.Proofs.YtmhomdohhihlcaaW.PrintWords (Q0)
def XU (md:Region.Mode) (o:Oper):List Nat:=(o.after.toList.filter (fun e=>Region.binds md e)).map (fun e=>e.on)
def qeU (md:Region.Mode) (ops:Array Oper) (i:Nat) (oi:Oper):List Nat:=(List.range ops.size).filter fun j => !(j==i)&&match ops[j]? with
 | some oj => !(oj.after.any (fun e=>Region.binds md e&&e.on==i)||oi.apart ops oj)
 | none=>false
def rtab (md:Region.Mode) (ops:Array Oper):Bool × List (List Nat × List Nat):=(Region.noSelect ops,(List.range ops.size).map fun i=>match ops[i]? with
 | some o=>(XU md o,qeU md ops i o)
 | none=>([],[]))
def Wc (T:List (List Nat × List Nat)) (l:List Bool) (i:Nat):Bool:=!l.getD i true&&match T[i]? with
 | some r=>r.1.all (fun j=>l.getD j false)
 | none=>false
def qb7 (T:List (List Nat × List Nat)) (l:List Bool):List Nat:=(List.range T.length).filter (Wc T l)
def qgp (T:List (List Nat × List Nat)) (l:List Bool) (i:Nat):Bool:=match T[i]? with
 | some r=>r.2.all (fun j=>l.getD j true)
 | none=>false
def qcz (T:List (List Nat × List Nat)) (l:List Bool):Bool:=(List.range T.length).all fun j => !l.getD j false||match T[j]? with
 | some r=>r.1.all (fun k=>l.getD k false)
 | none=>true
def qb5 (T:List (List Nat × List Nat)) (i:Nat):Nat→Nat→Bool
 | 0,_=>false
 | fuel+1,d=>match T[d]? with
  | some r=>r.1.any fun j=>j==i||qb5 T i fuel j
  | none=>false
def qkk (T:List (List Nat × List Nat)) (l:List Bool) (ds:List Nat) (i:Nat):Bool:=ds.all fun d=>l.getD d true||qb5 T i T.length d
section
variable {md:Region.Mode} {ops:Array Oper} {T:Bool × List (List Nat × List Nat)} {l l' li lj lk:Array Bool} {ds:List Nat} {i j k:Nat}
theorem gd (l:Array Bool) (j:Nat) (b:Bool):l.getD j b=l.toList.getD j b:=by simp [Array.getD_eq_getD_getElem?,List.getD_eq_getElem?_getD]
theorem qeB (o:Oper) (p:Nat→Bool):o.after.all (fun e => !Region.binds md e||p e.on)=(XU md o).all p:=by
 unfold XU
 rw [← Array.all_toList]
 induction o.after.toList with
 | nil=>rfl
 | cons e r ih =>
  rw [List.all_cons,ih,List.filter_cons]
  cases h:Region.binds md e<;>simp
theorem qk3 (o:Oper) (p:Nat→Bool):o.after.any (fun e=>Region.binds md e&&p e.on)=(XU md o).any p:=by
 unfold XU
 rw [← Array.any_toList]
 induction o.after.toList with
 | nil=>rfl
 | cons e r ih =>
  rw [List.any_cons,ih,List.filter_cons]
  cases h:Region.binds md e<;>simp
theorem Wd:(rtab md ops).2.length=ops.size:=by simp [rtab]
theorem XW {o:Oper} (h:ops[i]? = some o):(rtab md ops).2[i]? = some (XU md o,qeU md ops i o):=by
 have hi:=(Array.getElem?_eq_some_iff.1 h).1
 unfold rtab
 rw [List.getElem?_map,List.getElem?_range hi,Option.map_some,h]
theorem XV (h:ops[i]? = none):(rtab md ops).2[i]? = none:=by
 have hi:ops.size≤i:=Array.getElem?_eq_none_iff.1 h
 exact List.getElem?_eq_none (by rw [Wd];exact hi)
theorem qiM:Wc (rtab md ops).2 l.toList i=(!l.getD i true&&((ops[i]?).map (·.after.all fun e => !Region.binds md e||l.getD e.on false)).getD false):=by
 unfold Wc
 rw [gd]
 cases h:ops[i]? with
 | none=>rw [XV h];rfl
 | some o =>
  rw [XW h]
  simp only [Option.map_some,Option.getD_some]
  rw [← qeB]
  simp only [gd]
theorem qbR:Region.ready md ops l=qb7 (rtab md ops).2 l.toList:=by
 unfold Region.ready qb7
 rw [Wd]
 refine List.filter_congr (fun i _ => ?_)
 rw [qiM]
theorem qju:Region.free md ops l i=qgp (rtab md ops).2 l.toList i:=by
 unfold Region.free qgp
 cases h:ops[i]? with
 | none=>rw [XV h]
 | some oi =>
  rw [XW h]
  simp only [qeU]
  rw [List.all_filter]
  congr 1
  funext j
  rw [gd]
  cases hj:ops[j]? with
  | none=>cases (j==i)<;>cases (l.toList.getD j true)<;>simp
  | some oj =>
   cases (j==i)<;>cases (l.toList.getD j true)<;>cases (oj.after.any (fun e=>Region.binds md e&&e.on==i)||oi.apart ops oj)<;>simp_all
theorem qkM:Region.closedB md ops l=qcz (rtab md ops).2 l.toList:=by
 unfold Region.closedB qcz
 rw [Wd]
 congr 1
 funext j
 rw [gd]
 cases h:ops[j]? with
 | none=>rw [XV h]
 | some o =>
  rw [XW h]
  simp only
  rw [← qeB]
  simp only [gd]
theorem qg9:∀ (fuel d:Nat),Region.reachB md ops i fuel d=qb5 (rtab md ops).2 i fuel d
 | 0,_=>rfl
 | fuel+1,d=>by
  unfold Region.reachB qb5
  cases h:ops[d]? with
  | none=>rw [XV h]
  | some o =>
   rw [XW h]
   simp only
   rw [← qk3]
   congr 1
   funext e
   rw [qg9 fuel]
theorem qoL:Region.lastB md ops l ds i=qkk (rtab md ops).2 l.toList ds i:=by
 unfold Region.lastB qkk
 rw [Wd]
 congr 1
 funext d
 rw [gd,qg9]
theorem qcm (h:Wc T.2 l.toList i=true) (hT:rtab md ops=T):(Region.ready md ops l).contains i=true:=by
 subst hT
 rw [qbR]
 unfold qb7
 rw [List.contains_iff_mem,List.mem_filter,List.mem_range]
 refine ⟨?_,h⟩
 unfold Wc at h
 rw [Bool.and_eq_true] at h
 cases hq:(rtab md ops).2[i]? with
 | none=>rw [hq] at h;simp at h
 | some r=>exact (List.getElem?_eq_some_iff.1 hq).1
theorem qdV (h:(l.toList.set i true==l'.toList)=true):(l.setIfInBounds i true==l')=true:=by
 rw [beq_iff_eq] at h ⊢
 apply Array.ext'
 rw [Array.toList_setIfInBounds]
 exact h
def anyT (T:Bool × List (List Nat × List Nat)) (l l':List Bool) (i:Nat):Bool:=T.1&&qgp T.2 l i&&Wc T.2 l i&&(l.set i true==l')
theorem qqK (hT:rtab md ops=T) (h:anyT T l.toList l'.toList i=true):anyB md ops l l' i=true:=by
 simp only [anyT,Bool.and_eq_true] at h
 obtain ⟨⟨⟨h1,h2⟩,h3⟩,h4⟩:=h
 have h5:=qcm h3 hT
 have h6:=qdV h4
 subst hT
 simp only [anyB,Bool.and_eq_true]
 exact ⟨⟨⟨h1,by rw [qju];exact h2⟩,h5⟩,h6⟩
def qm6 (T:Bool × List (List Nat × List Nat)) (ds:List Nat) (l l':List Bool) (i:Nat):Bool:=T.1&&qgp T.2 l i&&Wc T.2 l i&&qcz T.2 l&&qkk T.2 l ds i&&(l.set i true==l')
theorem qo9 (hT:rtab md ops=T) (h:qm6 T ds l.toList l'.toList i=true):qeE md ops ds l l' i=true:=by
 simp only [qm6,Bool.and_eq_true] at h
 obtain ⟨⟨⟨⟨⟨h1,h2⟩,h3⟩,h4⟩,h5⟩,h6⟩:=h
 have h7:=qcm h3 hT
 have h8:=qdV h6
 subst hT
 simp only [qeE,Bool.and_eq_true]
 exact ⟨⟨⟨⟨⟨h1,by rw [qju];exact h2⟩,h7⟩,by rw [qkM];exact h4⟩,by rw [qoL];exact h5⟩,h8⟩
theorem Kt (hT:rtab md ops=T) (h:(qb7 T.2 l.toList==[i]&&l.toList.set i true==l'.toList)=true):qb6 md ops l l' i=true:=by
 simp only [Bool.and_eq_true] at h
 obtain ⟨h1,h2⟩:=h
 subst hT
 simp only [qb6,Bool.and_eq_true]
 exact ⟨by rw [qbR];exact h1,qdV h2⟩
theorem qm9 (hT:rtab md ops=T) (h:(qb7 T.2 l.toList==[i,j]&&l.toList.set i true==li.toList&&l.toList.set j true==lj.toList)=true):(Region.ready md ops l==[i,j]&&l.setIfInBounds i true==li&&l.setIfInBounds j true==lj)=true:=by
 simp only [Bool.and_eq_true] at h ⊢
 obtain ⟨⟨h1,h2⟩,h3⟩:=h
 subst hT
 exact ⟨⟨by rw [qbR];exact h1,qdV h2⟩,qdV h3⟩
theorem Gp (hT:rtab md ops=T) (h:(qb7 T.2 l.toList==[])=true):(Region.ready md ops l==[])=true:=by
 subst hT
 rw [qbR]
 exact h
def upM (B:List Nat) (d:Nat):List Nat→Nat
 | []=>0
 | n::r=>(2 ^ n ||| (if n<d then B.getD n 0 else 0)) ||| upM B d r
def Od (T:List (List Nat × List Nat)) (B:List Nat):Bool:=(List.range T.length).all fun d=>match T[d]? with
 | some r=>(B.getD d 0 ||| upM B d r.1)==upM B d r.1
 | none=>false
theorem qko {B:List Nat} {d i:Nat}:∀ {ns:List Nat},(upM B d ns).testBit i=true → ∃ n∈ns,n=i∨(n<d∧(B.getD n 0).testBit i=true)
 | [],h=>by simp [upM] at h
 | n::r,h=>by
  unfold upM at h
  rw [Nat.testBit_or,Nat.testBit_or,Bool.or_eq_true,Bool.or_eq_true] at h
  rcases h with (h|h)|h
  ·
   rw [Nat.testBit_two_pow] at h
   exact ⟨n,List.mem_cons_self,.inl (by simpa using h)⟩
  ·
   by_cases hn:n<d
   ·
    rw [if_pos hn] at h
    exact ⟨n,List.mem_cons_self,.inr ⟨hn,h⟩⟩
   rw [if_neg hn] at h
   simp at h
  obtain ⟨m,hm,h2⟩:=qko h
  exact ⟨m,List.mem_cons_of_mem _ hm,h2⟩
theorem qeD {T:List (List Nat × List Nat)} {B:List Nat} (hB:Od T B=true):∀ (fuel d:Nat),d<fuel→d<T.length→(B.getD d 0).testBit i=true→qb5 T i fuel d=true
 | 0,d,h,_,_=>by omega
 | fuel+1,d,h,hd,hb=>by
  have h1:=List.all_eq_true.1 hB d (List.mem_range.2 hd)
  cases hr:T[d]? with
  | none=>rw [hr] at h1;simp at h1
  | some r =>
   rw [hr] at h1
   simp only [beq_iff_eq] at h1
   have h2:(upM B d r.1).testBit i=true:=by rw [← h1,Nat.testBit_or,hb,Bool.true_or]
   obtain ⟨n,hn,h3⟩:=qko h2
   unfold qb5
   rw [hr]
   simp only
   rw [List.any_eq_true]
   refine ⟨n,hn,?_⟩
   rcases h3 with rfl|⟨h4,h5⟩
   ·
    simp
   rw [qeD hB fuel n (by omega) (by omega) h5,Bool.or_true]
def qqq (T:List (List Nat × List Nat)) (B:List Nat) (l:List Bool) (ds:List Nat) (i:Nat):Bool:=ds.all fun d=>l.getD d true||(decide (d<T.length)&&(B.getD d 0).testBit i)
def qqs (T:Bool × List (List Nat × List Nat)) (B:List Nat) (ds:List Nat) (l l':List Bool) (i:Nat):Bool:=T.1&&qgp T.2 l i&&Wc T.2 l i&&qcz T.2 l&&qqq T.2 B l ds i&&(l.set i true==l')
theorem Y4 {B:List Nat} (hT:rtab md ops=T) (hB:Od T.2 B=true) (h:qqs T B ds l.toList l'.toList i=true):qeE md ops ds l l' i=true:=by
 refine qo9 hT ?_
 simp only [qqs,qm6,Bool.and_eq_true] at h ⊢
 obtain ⟨⟨⟨⟨⟨h1,h2⟩,h3⟩,h4⟩,h5⟩,h6⟩:=h
 refine ⟨⟨⟨⟨⟨h1,h2⟩,h3⟩,h4⟩,?_⟩,h6⟩
 unfold qqq at h5
 unfold qkk
 rw [List.all_eq_true] at h5 ⊢
 intro d hd
 have h7:=h5 d hd
 rw [Bool.or_eq_true,Bool.and_eq_true,decide_eq_true_eq] at h7
 rcases h7 with h7|⟨h8,h9⟩
 ·
  rw [h7,Bool.true_or]
 rw [qeD hB _ d h8 h8 h9,Bool.or_true]
theorem Jx {P:Program} {Q:Exit→Act→World→Prop} {S:World→Prop} {n:Nat} {a:Act} {w:World} {B:List Nat} (hT:rtab md ops=T) (hB:Od T.2 B=true) (h:Q0 (rtab md ops=T)→Q0 (Od T.2 B=true)→YH P md ops Q S ds n l a w):YH P md ops Q S ds n l a w:=h ⟨hT⟩ ⟨hB⟩
end
def qak:Code→Nat→Option (Array Oper)
 | .region id ops _,k=>if id==k then some ops else none
 | .seq a b,k=>match qak a k with
  | some o=>some o
  | none=>qak b k
 | .cond _ a b,k=>match qak a k with
  | some o=>some o
  | none=>qak b k
 | .block _ c,k=>qak c k
 | .loop c,k=>qak c k
 | .scope c,k=>qak c k
 | .rangeFunc _ _ a b,k=>match qak a k with
  | some o=>some o
  | none=>qak b k
 | _,_=>none
def qdQ (f:Func) (k:Nat):Array Oper:=((f.body.bind fun c=>qak c k)).getD #[]
end Go.Proofs.YtmhomdohhihlcaaW.PrintLast
namespace Go.Proofs.YtmhomdohhihlcaaW.PrintWords
open Go.RowKit
namespace Kd
def tag {α:Type} (f:Nat→Nat) (d:Kd α):Kd (α × Nat) where
 sz:=d.sz
 E:=d.E
 K:=fun w x cs=>d.K w x.1 cs
 M:=fun w base ok x cs=>d.M w base (fun k=>ok k∧f k=x.2) x.1 cs
 K_len:=fun h=>d.K_len h
 K_one:=fun h=>d.K_one h
 K_below:=fun hb h=>d.K_below hb h
 K_of_M:=fun h=>d.K_of_M h
 M_mono:=fun hok h=>d.M_mono (fun k hk=>⟨hok k hk.1,hk.2⟩) h
 M_bound:=fun h=>d.M_mono (fun _ hk=>⟨⟨hk.1.1,hk.2⟩,hk.1.2⟩) (d.M_bound h)
 M_move:=fun hm h=>d.M_move (fun k hk=>hm k hk.1) h
 M_lower:=fun hb h=>d.M_lower hb h
def raw (sz:Nat):Kd (List Value) where
 sz:=sz
 E:=[]
 K:=fun _ x cs=>cs=x∧cs.length=sz ∧ ∀ u∈cs,u.oneCell'=true
 M:=fun _ _ _ x cs=>cs=x∧cs.length=sz ∧ ∀ u∈cs,u.oneCell'=true
 K_len:=fun h=>h.2.1
 K_one:=fun h=>h.2.2
 K_below:=fun _ h=>h
 K_of_M:=fun h=>h
 M_mono:=fun _ h=>h
 M_bound:=fun h=>h
 M_move:=fun _ h=>h
 M_lower:=fun _ h=>h
def S {α:Type} (d:Kd α) (e:Nat) (w:World) (base:Nat) (ok:Nat→Prop) (v:Value) (xs:List α):Prop:=∃ f,(tag f d).R e w base ok v xs.zipIdx
section
variable {α β:Type} {d:Kd α} {d':Kd β} {e e':Nat} {w w1 W:World} {base b:Nat} {ok ok' okv oku:Nat→Prop} {u v:Value} {xs:List α} {ys:List β}
theorem qnv (hE:d.E=[]) (h:d.R e w base ok v xs):d.R e w base (fun k=>some k=v.ownBlock) v xs:=by
 obtain ⟨h0,inner,ho,hr⟩:=h
 refine ⟨fun k hk=>hk.symm,inner,ho,hr.imp_ (fun p c hp=>d.M_mono (fun k hk => ?_) (d.M_bound hp))⟩
 obtain ⟨_,_,_,q,hq,_⟩:=hk
 rw [hE] at hq
 cases hq
end
def gap {α:Type} (f:Nat→Nat) (d:Kd α) (i:Nat) (c:List Value):Kd (α × Nat) where
 sz:=d.sz
 E:=d.E
 K:=fun w x cs=>(x.2=i→cs=c∧cs.length=d.sz ∧ ∀ u∈cs,u.oneCell'=true)∧(x.2≠i→d.K w x.1 cs)
 M:=fun w base ok x cs=>(x.2=i→cs=c∧cs.length=d.sz ∧ ∀ u∈cs,u.oneCell'=true)∧(x.2≠i→d.M w base (fun k=>ok k∧f k=x.2) x.1 cs)
 K_len:=fun {w x cs} h=>by
  by_cases hx:x.2=i
  ·
   exact (h.1 hx).2.1
  exact d.K_len (h.2 hx)
 K_one:=fun {w x cs} h=>by
  by_cases hx:x.2=i
  ·
   exact (h.1 hx).2.2
  exact d.K_one (h.2 hx)
 K_below:=fun hb h=>⟨h.1,fun hx=>d.K_below hb (h.2 hx)⟩
 K_of_M:=fun h=>⟨h.1,fun hx=>d.K_of_M (h.2 hx)⟩
 M_mono:=fun hok h=>⟨h.1,fun hx=>d.M_mono (fun k hk=>⟨hok k hk.1,hk.2⟩) (h.2 hx)⟩
 M_bound:=fun h=>⟨h.1,fun hx=>d.M_mono (fun _ hk=>⟨⟨hk.1.1,hk.2⟩,hk.1.2⟩) (d.M_bound (h.2 hx))⟩
 M_move:=fun hm h=>⟨h.1,fun hx=>d.M_move (fun k hk=>hm k hk.1) (h.2 hx)⟩
 M_lower:=fun hb h=>⟨h.1,fun hx=>d.M_lower hb (h.2 hx)⟩
def H {α:Type} (d:Kd α) (e:Nat) (w:World) (base:Nat) (ok:Nat→Prop) (v:Value) (xs:List α) (i:Int) (oki:Nat→Prop) (c:List Value):Prop :=
 (∀ k,oki k→ok k) ∧ ∃ f,(gap f d i.toNat c).R e w base (fun k=>ok k ∧ ¬ oki k) v xs.zipIdx
end Kd
end Go.Proofs.YtmhomdohhihlcaaW.PrintWords
namespace Go.Proofs.YtmhomdohhihlcaaW.PrintWords
open Go.RowKit
namespace Kd
structure Heap {α:Type} (d:Kd α):Prop where
 K:∀ {w w1:World} {x:α} {cs:List Value},(∀ k,k<w.heap.size→w1.heap[k]? = w.heap[k]?)→d.K w x cs→d.K w1 x cs
theorem qrC {w w1:World} (hb:∀ k,k<w.heap.size→w1.heap[k]? = w.heap[k]?) {a:Addr} {v:Value} (h:w.cell? a=some v):w1.cell? a=some v:=by
 have:=hb a.block (World.block_lt_of_cell? w a h)
 simpa [World.cell?,this] using h
end Kd
end Go.Proofs.YtmhomdohhihlcaaW.PrintWords
namespace Go.Proofs.YtmhomdohhihlcaaW.PrintWords
open Go.RowKit
def Kept (w W:World) (S:Nat→Prop):Prop:=w.heap.size≤W.heap.size ∧ ∀ i,i<w.heap.size → ¬ S i→W.heap[i]? = w.heap[i]?
section
variable {w W W2:World} {S S2 S':Nat→Prop}
theorem Kept.refl (w:World) (S:Nat→Prop):Kept w w S:=⟨Nat.le_refl _,fun _ _ _=>rfl⟩
theorem Kept.of_below (h:Below w.heap.size w W) (S:Nat→Prop):Kept w W S:=⟨h.size,fun i hi _=>h.block i hi⟩
theorem Kept.mono (h:Kept w W S) (hs:∀ k,S k→S' k):Kept w W S':=⟨h.1,fun i hi hn=>h.2 i hi (fun hk=>hn (hs i hk))⟩
theorem Kept.then_ (h:Kept w W S) (k:Kept W W2 S2) (hs:∀ k,S2 k→S k∨w.heap.size≤k):Kept w W2 S :=
 ⟨Nat.le_trans h.1 k.1,fun i hi hn=>(k.2 i (Nat.lt_of_lt_of_le hi h.1) (fun h2=>(hs i h2).elim hn (fun h3=>by omega))).trans (h.2 i hi hn)⟩
theorem Kept.of_grown {row:Option Nat} (hg:W.grownBy W2 row) (h:Kept w W S) (hr:∀ k,row=some k→S k∨w.heap.size≤k):Kept w W2 S :=
 h.then_ (S2:=fun k=>row=some k) ⟨hg.size,fun i hi hn=>hg.block i hi (fun he=>hn he.symm)⟩ hr
theorem Kept.below (h:Kept w W S) (hb:Below W.heap.size W W2):Kept w W2 S:=h.then_ (Kept.of_below hb (fun _=>False)) (fun _ hk=>hk.elim)
theorem Kept.alloc (h:Kept w W S) (o:Obj):Kept w (W.alloc o) S:=h.below (Q4 (Below.refl _ _) o)
theorem Kept.setCell (h:Kept w W S) {p:Addr} (hp:S p.block∨w.heap.size≤p.block) (u:Value):Kept w (W.setCell p u) S :=
 h.then_ (S2:=fun k=>k=p.block) ⟨by simp [World.setCell],fun i _ hn=>Below.heap_setCell W p u i hn⟩ (fun k hk=>by rw [hk];exact hp)
theorem Kw {g:Nat} {o:Obj} (hb:W.heap[g]? = some o) (hk:Kept W W2 S) (hne:¬ S g):W2.heap[g]? = some o:=(hk.2 g (QY hb) hne).trans hb
theorem XF {a:Addr} {v:Value} (hc:W.cell? a=some v) (hk:Kept W W2 S) (hne:¬ S a.block):W2.cell? a=some v:=by
 have:=hk.2 a.block (World.block_lt_of_cell? W a hc) hne
 simpa [World.cell?,this] using hc
end
namespace Kd
section
variable {α:Type} {d:Kd α} {e base n c:Nat} {ok oki S S2:Nat→Prop} {w w0 W W1 W2:World} {v:Value} {A:Option Addr} {xs:List α} {i:Int} {cs:List Value}
theorem R_kept (h:d.R e W base ok v xs) (hk:Kept W W2 S) (hne:∀ k,ok k → ¬ S k):d.R e W2 base ok v xs:=qdA h (fun k ho hlt=>hk.2 k hlt (hne k ho))
end
end Kd
end Go.Proofs.YtmhomdohhihlcaaW.PrintWords
namespace Go.Proofs.YtmhomdohhihlcaaW.PrintWords
open Go.RowKit
def Foot (P:World→Prop) (W:World) (ok:Nat→Prop):Prop:=∀ W':World,(∀ k,ok k→k<W.heap.size→W'.heap[k]? = W.heap[k]?)→P W'
theorem qn5 {W W1:World} {k:Nat} (h:W1.heap[k]? = W.heap[k]?) (hlt:k<W.heap.size):k<W1.heap.size:=by
 rw [Array.getElem?_eq_getElem hlt] at h
 exact (Array.getElem?_eq_some_iff.1 h).1
namespace Foot
variable {P Q:World→Prop} {W W1:World} {ok ok':Nat→Prop}
theorem now (h:Foot P W ok):P W:=h W (fun _ _ _=>rfl)
theorem mono (h:Foot P W ok) (hok:∀ k,ok k→ok' k):Foot P W ok':=fun W' hW=>h W' (fun k hk hlt=>hW k (hok k hk) hlt)
theorem bound (h:Foot P W ok):Foot P W (fun k=>ok k∧k<W.heap.size):=fun W' hW=>h W' (fun k hk hlt=>hW k ⟨hk,hlt⟩ hlt)
theorem step (h:Foot P W ok) (hm:∀ k,ok k→k<W.heap.size→W1.heap[k]? = W.heap[k]?):Foot P W1 ok:=fun W' hW=>h W' (fun k hk hlt=>(hW k hk (qn5 (hm k hk hlt) hlt)).trans (hm k hk hlt))
theorem imp (h:Foot P W ok) (hi:∀ W',P W'→Q W'):Foot Q W ok:=fun W' hW=>hi W' (h W' hW)
theorem old (h:Foot P W ok) (hb:Below W.heap.size W W1):Foot P W1 (fun k=>ok k∧k<W.heap.size):=(h.bound).step (fun k _ hlt=>hb.block k hlt)
end Foot
namespace Kd
def F {α:Type} (d:Kd α) (W:World) (ok:Nat→Prop) (A:Option Addr) (n:Nat) (xs:List α):Prop:=Foot (fun W=>d.C W A n xs) W ok
def FK {α:Type} (d:Kd α) (W:World) (ok:Nat→Prop) (x:α) (c:List Value):Prop:=Foot (fun W=>d.K W x c) W ok
section
variable {α β:Type} {d:Kd α} {e base n n' cc g N:Nat} {ok ok' okp S:Nat→Prop} {w w0 w1 W W1:World} {A A':Option Addr} {u v v1:Value} {xs:List α} {xs':List β} {d':Kd β} {x:α} {c:List Value}
theorem F_now (h:F d W ok A n xs):d.C W A n xs:=Foot.now h
theorem qhK (h:F d W ok A n xs) (hok:∀ k,ok k→ok' k):F d W ok' A n xs:=Foot.mono h hok
theorem qnn (h:F d W ok A n xs):F d W (fun k=>ok k∧k<W.heap.size) A n xs:=Foot.bound h
theorem qlE (h:F d W ok A n xs) (hm:∀ k,ok k→k<W.heap.size→W1.heap[k]? = W.heap[k]?):F d W1 ok A n xs:=Foot.step h hm
theorem qcw (h:F d W ok A n xs) (hb:Below W.heap.size W W1):F d W1 ok A n xs:=qlE h (fun k _ hlt=>hb.block k hlt)
theorem qnm (h:F d W ok A n xs) (o:Obj):F d (W.alloc o) ok A n xs:=qcw h (Q4 (Below.refl _ _) o)
theorem qqx (h:F d W ok A n xs):F d W.drew ok A n xs:=qcw h (YA (Below.refl _ _))
theorem qno (h:F d W ok A n xs) (m:Nat):F d (W.drewN m) ok A n xs:=qcw h (Q1 (Below.refl _ _) m)
theorem qr4 (h:F d W ok A n xs) {p:Addr} (hok:∀ k,ok k→k≠p.block) (u:Value):F d (W.setCell p u) ok A n xs:=qlE h (fun k hk _=>Below.heap_setCell W p u k (hok k hk))
theorem qr5 (d:Kd α) (W:World) (ok:Nat→Prop):F d W ok none ([]:List α).length []:=fun W' _=>C_nil d W'
theorem qlD (h:F d W ok A n xs) (hbase:∀ k,v.ownBlock=some k→W.heap.size≤k) (hb:Below W.heap.size W W1):F d W1 (fun k=>ok k∧some k≠v.ownBlock) A n xs :=
 qhK (Foot.old h hb) (fun k hk=>⟨hk.1,fun he=>by have:=hbase k he.symm;have:=hk.2;omega⟩)
theorem qnl (h:F d W (fun k=>ok k∧some k≠v.ownBlock) A n xs) (hg:W.grownBy W1 v.ownBlock) (hat:v1.ownBlock=v.ownBlock ∨ ∃ b,v1.ownBlock=some b∧W.heap.size≤b):F d W1 (fun k=>ok k∧some k≠v1.ownBlock) A n xs:=by
 refine qhK (Foot.step (qnn h) (fun k hk hlt=>hg.block k hlt hk.1.2)) (fun k hk=>⟨hk.1.1,?_⟩)
 rcases hat with hat|⟨b,hb,hle⟩
 ·
  rw [hat];exact hk.1.2
 rw [hb]
 intro he
 injection he with he
 have:=hk.2
 omega
theorem R_F (h:d.R e W base ok (.slice A n cc) xs):F d W ok A n xs:=fun W' hW=>by
 have h2:=R_reads' (qdA h hW)
 rw [h2.1]
 exact h2.2.2
theorem qhJ (h:FK d W ok x c):d.K W x c:=Foot.now h
theorem qeI (h:FK d W ok x c) (hok:∀ k,ok k→ok' k):FK d W ok' x c:=Foot.mono h hok
theorem qga (h:FK d W ok x c):FK d W (fun k=>ok k∧k<W.heap.size) x c:=Foot.bound h
theorem qi8 (h:FK d W ok x c) (hm:∀ k,ok k→k<W.heap.size→W1.heap[k]? = W.heap[k]?):FK d W1 ok x c:=Foot.step h hm
theorem qnk (h:d.M W base ok x c):FK d W ok x c:=fun _ hW=>d.K_of_M (qlN h hW)
end
end Kd
end Go.Proofs.YtmhomdohhihlcaaW.PrintWords
namespace Go.Proofs.YtmhomdohhihlcaaW.PrintWords
open Go.RowKit
namespace Kd
def Xm (sz:Nat) (n:Nat) (inner:List Value):List (List Value):=(List.range n).map fun j=>(inner.drop (j*sz)).take sz
theorem G9 (sz n:Nat) (inner:List Value):(Xm sz n inner).length=n:=by simp [Xm]
theorem qkL {sz n:Nat} {inner:List Value} {j:Nat} (hj:j<n):(Xm sz n inner)[j]? = some ((inner.drop (j*sz)).take sz):=by simp [Xm,hj]
theorem qap {sz n:Nat} {inner:List Value} {j:Nat} {c:List Value} (h:(Xm sz n inner)[j]? = some c):c=(inner.drop (j*sz)).take sz:=by
 have hj:j<n:=by have:=(List.getElem?_eq_some_iff.1 h).1;rwa [G9] at this
 rw [qkL hj] at h
 injection h with h
 exact h.symm
theorem qhc {α:Type} {Rr:α→List Value→Prop} {sz:Nat} {xs:List α} {inner:List Value} (h:Reps Rr sz xs inner) (hR:∀ x c,Rr x c→c.length=sz ∧ ∀ u∈c,u.oneCell'=true):Reps (fun x cs=>cs=x∧cs.length=sz ∧ ∀ u∈cs,u.oneCell'=true) sz (Xm sz xs.length inner) inner:=by
 refine ⟨by rw [G9];exact h.1,fun j p hj => ?_⟩
 have hjl:j<xs.length:=by have:=(List.getElem?_eq_some_iff.1 hj).1;rwa [G9] at this
 have hp:=qap hj
 exact ⟨hp.symm,hR _ _ (h.2 j _ (List.getElem?_eq_getElem hjl))⟩
section
variable {α:Type} {d:Kd α} {e base n cc g:Nat} {ok ok' okp S:Nat→Prop} {w w1 W W1:World} {A:Option Addr} {u v v1:Value} {xs:List α} {x:α} {c:List Value}
def N {α:Type} (d:Kd α) (e:Nat) (w:World) (base:Nat) (ok:Nat→Prop) (v:Value) (xs:List α):Prop :=
 (∀ k,v.ownBlock=some k→ok k) ∧ ∃ rows:List (List Value),rows.length=xs.length∧(raw d.sz).R e w base (fun k=>some k=v.ownBlock) v rows ∧ ∀ (j:Nat) (x:α) (c:List Value),xs[j]? = some x→rows[j]? = some c→FK d w (fun k=>ok k∧some k≠v.ownBlock) x c
theorem qk7 {sz:Nat} {rows:List (List Value)} (h:(raw sz).R e w base ok v rows):(raw sz).R e w base (fun k=>some k=v.ownBlock) v rows:=qnv rfl h
theorem R_N (h:d.R e w base ok v xs):N d e w base ok v xs:=by
 obtain ⟨h0,inner,ho,hr⟩:=h
 refine ⟨h0,Xm d.sz xs.length inner,G9 _ _ _,⟨fun k hk=>hk.symm,inner,by rw [G9];exact ho,qhc hr (fun x c hp=>⟨d.K_len (d.K_of_M hp),d.K_one (d.K_of_M hp)⟩)⟩,fun j x c hx hc => ?_⟩
 rw [qap hc]
 exact qnk (hr.2 j x hx)
theorem N_nil (d:Kd α) (e:Nat) (w:World) (base:Nat) (ok:Nat→Prop):N d e w base ok (.slice none 0 0) []:=R_N (R_nil _ _ _ _ _)
theorem N_mono (h:N d e w base ok v xs) (hok:∀ k,ok k→ok' k):N d e w base ok' v xs:=by
 obtain ⟨h0,rows,hl,hR,hf⟩:=h
 exact ⟨fun k hk=>hok k (h0 k hk),rows,hl,hR,fun j x c hx hc=>qeI (hf j x c hx hc) (fun k hk=>⟨hok k hk.1,hk.2⟩)⟩
theorem N_lt (h:N d e w base ok v xs):∀ k,v.ownBlock=some k→k<w.heap.size:=by
 obtain ⟨_,rows,_,hR,_⟩:=h
 exact R_lt hR
theorem N_base (h:N d e w base ok v xs):∀ k,v.ownBlock=some k→base≤k:=by
 obtain ⟨_,rows,_,hR,_⟩:=h
 exact R_base hR
theorem N_typed (h:N d e w base ok v xs):∀ k,v.ownBlock=some k → ∃ cells,w.heap[k]? = some (.cells cells e (0,0)):=by
 obtain ⟨_,rows,_,hR,_⟩:=h
 exact R_typed hR
theorem qnu (h:N d e w base ok v xs):N d e w base (fun k=>ok k∧k<w.heap.size) v xs:=by
 have hlt:=N_lt h
 obtain ⟨h0,rows,hl,hR,hf⟩:=h
 exact ⟨fun k hk=>⟨h0 k hk,hlt k hk⟩,rows,hl,hR,fun j x c hx hc=>qeI (qga (hf j x c hx hc)) (fun k hk=>⟨⟨hk.1.1,hk.2⟩,hk.1.2⟩)⟩
theorem N_lower {base':Nat} (h:N d e w base ok v xs) (hb:base'≤base):N d e w base' ok v xs:=by
 obtain ⟨h0,rows,hl,hR,hf⟩:=h
 exact ⟨h0,rows,hl,R_lower hR hb,hf⟩
theorem qhM (h:N d e w base ok v xs) (hm:∀ k,ok k→k<w.heap.size→w1.heap[k]? = w.heap[k]?):N d e w1 base ok v xs:=by
 obtain ⟨h0,rows,hl,hR,hf⟩:=h
 exact ⟨h0,rows,hl,qdA hR (fun k hk hlt=>hm k (h0 k hk.symm) hlt),fun j x c hx hc=>qi8 (hf j x c hx hc) (fun k hk hlt=>hm k hk.1 hlt)⟩
theorem qcx (h:N d e w base ok v xs) (hb:Below w.heap.size w w1):N d e w1 base ok v xs:=qhM h (fun k _ hk=>hb.block k hk)
theorem N_alloc (h:N d e w base ok v xs) (o:Obj):N d e (w.alloc o) base ok v xs:=qcx h (Q4 (Below.refl _ _) o)
theorem N_drew (h:N d e w base ok v xs):N d e w.drew base ok v xs:=qcx h (YA (Below.refl _ _))
theorem N_drewN (h:N d e w base ok v xs) (m:Nat):N d e (w.drewN m) base ok v xs:=qcx h (Q1 (Below.refl _ _) m)
theorem N_far (h:N d e w base ok v xs) {p:Addr} (hok:∀ k,ok k→k≠p.block) (u:Value):N d e (w.setCell p u) base ok v xs:=qhM h (fun k ho _=>Below.heap_setCell w p u k (hok k ho))
theorem N_elder' (h:N d e W base ok v xs) (hbase:∀ k,u.ownBlock=some k→W.heap.size≤k) (hb:Below W.heap.size W w1):N d e w1 base (fun k=>ok k∧some k≠u.ownBlock) v xs :=
 N_mono (qcx (qnu h) hb) (fun k hk=>⟨hk.1,fun he=>by have:=hbase k he.symm;have:=hk.2;omega⟩)
theorem N_slice (h:N d e w base ok v xs):∃ A c,v = .slice A xs.length c:=by
 obtain ⟨_,rows,hl,hR,_⟩:=h
 obtain ⟨A,c,he⟩:=R_slice hR
 exact ⟨A,c,by rw [he,hl]⟩
theorem N_reads' {n c:Nat} (h:N d e w base ok (.slice A n c) xs):n=xs.length∧n≤c∧d.C w A xs.length xs:=by
 obtain ⟨_,rows,hl,hR,hf⟩:=h
 obtain ⟨hn,hc,hC⟩:=R_reads' hR
 refine ⟨by omega,hc,?_⟩
 rw [hl] at hC
 refine ⟨rfl,hC.2.1,fun hp => ?_⟩
 obtain ⟨ad,he,hcell⟩:=hC.2.2 hp
 refine ⟨ad,he,fun j p hj => ?_⟩
 have hjl:j<rows.length:=by have:=(List.getElem?_eq_some_iff.1 hj).1;omega
 obtain ⟨c',hcl,hK,hcc⟩:=hcell j _ (List.getElem?_eq_getElem hjl)
 have hk:=qhJ (hf j p _ hj (List.getElem?_eq_getElem hjl))
 refine ⟨c',hcl,?_,hcc⟩
 rw [show c'=rows[j] from hK.1]
 exact hk
theorem N_reads (h:N d e w base ok v xs):∃ A c,v = .slice A xs.length c∧xs.length≤c∧d.C w A xs.length xs:=by
 obtain ⟨A,c,rfl⟩:=N_slice h
 exact ⟨A,c,rfl,(N_reads' h).2⟩
theorem N_F {n:Nat} (h:N d e w base ok (.slice A n cc) xs):F d w ok A n xs:=fun W' hW=>by
 have h2:=N_reads' (qhM h hW)
 rw [h2.1]
 exact h2.2.2
end
end Kd
end Go.Proofs.YtmhomdohhihlcaaW.PrintWords
namespace Go.Proofs.YtmhomdohhihlcaaW.PrintWords
open Go.RowKit
section
variable {P:Program} {d:Nat} {xs ys:Array Value} {f:Field} {fs:List Field} {a b:Value} {r s:Bool} {w:World}
theorem qgn (hn : (f.name == "_") = false) (ha : (part f.type xs f.offset).run P w = .ok a w) (hb : (part f.type ys f.offset).run P w = .ok b w) (he : (Op.equalIn d f.type a b).run P w = .ok r w) : (Op.eqFields d xs ys [f]).run P w = .ok r w := by
 have hn' : f.name ≠ "_" := by simpa using hn
 simp only [Op.eqFields,if_pos hn',Sem.run_bind,ha,hb,he,Result.andThen_ok]
 cases r<;>simp
theorem qmd (hn : (f.name == "_") = false) (ha : (part f.type xs f.offset).run P w = .ok a w) (hb : (part f.type ys f.offset).run P w = .ok b w) (he : (Op.equalIn d f.type a b).run P w = .ok r w) (hr : (Op.eqFields d xs ys fs).run P w = .ok s w) : (Op.eqFields d xs ys (f :: fs)).run P w = .ok (r && s) w := by
 have hn' : f.name ≠ "_" := by simpa using hn
 rw [Op.eqFields]
 simp only [if_pos hn',Sem.run_bind,ha,hb,he,Result.andThen_ok]
 cases r
 ·
  simp
 simpa using hr
theorem qmc {t:TypeId} {fs:Array Field} (hu:P.underlying t=some (.struct fs)) (hp:P.stoodInHeld t=false) (h:(Op.eqFields d xs ys fs.toList).run P w = .ok r w):(Op.equalIn (d+1) t (.agg xs) (.agg ys)).run P w = .ok r w:=by
 have hf:P.fieldsOf t=fs:=by simp [Program.fieldsOf,hu]
 rw [run_equalIn_struct (P:=P) w d t xs ys (by rw [hf];exact hu) hp,hf]
 exact h
end
end Go.Proofs.YtmhomdohhihlcaaW.PrintWords
namespace Go.Proofs.YtmhomdohhihlcaaW.PrintWords
theorem Reps.one {α:Type} {R:α→List Value→Prop} {ps:List α} {cs:List Value} {p:α} {v:Value} (hp:R p [v]) (h:Reps R 1 ps cs):Reps R 1 (p::ps) (v::cs):=by
 refine ⟨by simp [h.1],fun j q hq => ?_⟩
 cases j with
 | zero =>
  simp only [List.getElem?_cons_zero,Option.some.injEq] at hq
  subst hq
  simpa using hp
 | succ j =>
  simp only [List.getElem?_cons_succ] at hq
  have h1:=h.2 j q hq
  simpa [Nat.mul_one] using h1
theorem Reps.front {α:Type} {R:α→List Value→Prop} {size:Nat} {ps:List α} {cs c all:List Value} {p:α} (hp:R p c) (hc:c.length=size) (h:Reps R size ps cs) (ha:c++cs=all):Reps R size (p::ps) all:=by
 subst ha
 refine ⟨by rw [List.length_append,hc,h.1,List.length_cons,Nat.succ_mul,Nat.add_comm],fun j q hq => ?_⟩
 cases j with
 | zero =>
  simp only [List.getElem?_cons_zero,Option.some.injEq] at hq
  subst hq
  rw [Nat.zero_mul,List.drop_zero,List.take_append_of_le_length (by omega),List.take_of_length_le (by omega)]
  exact hp
 | succ j =>
  simp only [List.getElem?_cons_succ] at hq
  have h1:=h.2 j q hq
  rw [Nat.succ_mul,List.drop_append,List.drop_of_length_le (by rw [hc];exact Nat.le_add_left _ _),List.nil_append,hc,Nat.add_sub_cancel]
  exact h1
theorem Reps.c2 {α:Type} {R:α→List Value→Prop} {ps:List α} {cs:List Value} {p:α} {va vb:Value} (hp:R p [va,vb]) (h:Reps R 2 ps cs):Reps R 2 (p::ps) (va::vb::cs):=Reps.front hp rfl h rfl
theorem Reps.c3 {α:Type} {R:α→List Value→Prop} {ps:List α} {cs:List Value} {p:α} {va vb vc:Value} (hp:R p [va,vb,vc]) (h:Reps R 3 ps cs):Reps R 3 (p::ps) (va::vb::vc::cs):=Reps.front hp rfl h rfl
theorem Reps.c5 {α:Type} {R:α→List Value→Prop} {ps:List α} {cs:List Value} {p:α} {va vb vc vd ve:Value} (hp:R p [va,vb,vc,vd,ve]) (h:Reps R 5 ps cs):Reps R 5 (p::ps) (va::vb::vc::vd::ve::cs):=Reps.front hp rfl h rfl
end Go.Proofs.YtmhomdohhihlcaaW.PrintWords
namespace Go.Proofs.YtmhomdohhihlcaaW.PrintWords
open Go.RowKit
section
variable {P:Program} {ops:Array Oper} {rest:List Oper} {o:Oper} {a:Act} {Q:Exit→Act→World→Prop} {W:World}
theorem Jp (hw:Region.wanted o (yielded ops a.tmps)=true) (h:wpList P ops Q ({ o with guard:=none }::rest) a W):wpList P ops Q (o::rest) a W:=by
 have h1:Region.wanted { o with guard:=none } (yielded ops a.tmps)=true:=rfl
 unfold wpList at h ⊢
 rw [if_pos h1] at h
 rw [if_pos hw]
 exact h
end
end Go.Proofs.YtmhomdohhihlcaaW.PrintWords
namespace Go.Proofs.YtmhomdohhihlcaaW.PrintWords
open Go.RowKit
namespace Kd
section
variable {α:Type} {d:Kd α} {e base n cap g:Nat} {ok ok' okp:Nat→Prop} {w w1 W:World} {v v1:Value} {xs ys:List α}
theorem qqH {rows:List (List Value)} (hR:(raw d.sz).R e w1 base (fun k=>k=W.heap.size) v1 rows) (hg:W.grownBy w1 none) (hat:∃ b,v1.ownBlock=some b∧W.heap.size≤b) (hl:rows.length=xs.length) (hf:∀ (j:Nat) (x:α) (c:List Value),xs[j]? = some x→rows[j]? = some c→FK d W okp x c)
  (hok:∀ k,okp k→ok k) (hfresh:ok W.heap.size):N d e w1 base ok v1 xs:=by
 obtain ⟨b,hb,hle⟩:=hat
 refine ⟨fun k hk=>by rw [hR.1 k hk];exact hfresh,rows,hl,qk7 hR,fun j x c hx hc => ?_⟩
 refine qeI (qi8 (qga (hf j x c hx hc)) (fun k hk hlt=>hg.block k hlt (by simp))) (fun k hk=>⟨hok k hk.1,fun he => ?_⟩)
 rw [hb] at he
 injection he with he
 have:=hk.2
 omega
end
section
variable {P:Program} {ops:Array Oper} {rest:List Oper} {o:Oper} {a:Act} {Q:Exit→Act→World→Prop} {Kc:Act→World→Prop} {α:Type}
theorem N_lit (d:Kd α) {w0 W:World} (base e:Nat) (hgd:o.guard=none) {N':Tmp} (_hd:o.dst=some N') {xs:List α} {inner:List Value} {ok okp:Nat→Prop}
  (hrun:(execOp a.eval o).run P W = .ok (.value (.slice (some ⟨W.heap.size,0,none⟩) xs.length xs.length)) (W.alloc (.cells inner.toArray e)))
  (hrep:Reps (FK d W okp) d.sz xs inner) (hok:∀ k,okp k→ok k) (hfresh:ok W.heap.size) (HB:Below base w0 W) (hbase:base≤W.heap.size) (hm:xs.length≤9223372036854775807)
  (h:∀ v1 w1,N d e w1 base ok v1 xs→Below base w0 w1→W.grownBy w1 none→(∃ b,v1.ownBlock=some b∧W.heap.size≤b)→wpList P ops Q rest (a.put o.dst v1) w1) :
  wpList P ops Q (o::rest) a W:=by
 refine R_lit (raw d.sz) base e hgd _hd (xs:=Xm d.sz xs.length inner) (inner:=inner) (ok:=fun k=>k=W.heap.size) (okp:=fun _=>False) (by rw [G9];exact hrun) (qhc hrep (fun y c hk=>⟨d.K_len (qhJ hk),d.K_one (qhJ hk)⟩)) (fun _ hk=>hk.elim) rfl HB hbase (by rw [G9];exact hm) ?_
 intro v1 w1 hr hb hg hat
 exact h v1 w1 (qqH hr hg hat (G9 _ _ _) (fun j y c hy hc=>by rw [qap hc];exact hrep.2 j y hy) hok hfresh) hb hg hat
end
end Kd
end Go.Proofs.YtmhomdohhihlcaaW.PrintWords
namespace Go.Proofs.YtmhomdohhihlcaaW.PrintMore
open Go.RowKit Go.Proofs.YtmhomdohhihlcaaW.PrintWords
namespace Kd
open Go.Proofs.YtmhomdohhihlcaaW.PrintWords.Kd
section
variable {α:Type} {d:Kd α} {e base g N:Nat} {ok:Nat→Prop} {W w1:World} {u v:Value} {xs:List α}
theorem R_old (hu:d.R e W base ok u xs) (hb:Below W.heap.size W w1):d.R e w1 base (fun k=>ok k∧k<W.heap.size) u xs :=
 R_mono (R_below (R_bound hu) hb) (fun _ h=>⟨h.1,h.2.2.1⟩)
theorem R_told (h:d.R e w1 base (fun k=>ok k∧k<N) u xs) (hbase:∀ k,v.ownBlock=some k→N≤k):d.R e w1 base (fun k=>(ok k∧some k≠v.ownBlock)∧k<N) u xs :=
 R_mono h (fun k hk=>⟨⟨hk.1,fun e=>Nat.lt_irrefl _ (Nat.lt_of_lt_of_le hk.2 (hbase k e.symm))⟩,hk.2⟩)
end
end Kd
theorem Yv (k k':IntKind) (x y:Int):Builtin.max2 (.int k x) (.int k' y)=pure (.int k (if x<y then y else x)):=by simp only [Builtin.max2,gt_iff_lt]
theorem Yx (k k':IntKind) (x y:Int):Builtin.min2 (.int k x) (.int k' y)=pure (.int k (if y<x then y else x)):=by simp only [Builtin.min2]
theorem YK (ats:Array TypeId) (ty:TypeId) (a b:Value):Builtin.max_ ats ty #[a,b]=(Builtin.max2 a b >>= fun s=>pure s):=by simp only [Builtin.max_,List.foldlM_cons,List.foldlM_nil]
theorem YL (ats:Array TypeId) (ty:TypeId) (a b:Value):Builtin.min_ ats ty #[a,b]=(Builtin.min2 a b >>= fun s=>pure s):=by simp only [Builtin.min_,List.foldlM_cons,List.foldlM_nil]
theorem Yn (ats:Array TypeId) (ty:TypeId) (a b c:Value):Builtin.max_ ats ty #[a,b,c]=(Builtin.max2 a b >>= fun s=>Builtin.max2 s c >>= fun s=>pure s):=by simp only [Builtin.max_,List.foldlM_cons,List.foldlM_nil]
theorem Yo (ats:Array TypeId) (ty:TypeId) (a b c:Value):Builtin.min_ ats ty #[a,b,c]=(Builtin.min2 a b >>= fun s=>Builtin.min2 s c >>= fun s=>pure s):=by simp only [Builtin.min_,List.foldlM_cons,List.foldlM_nil]
theorem Yw (ats:Array TypeId) (ty:TypeId) (a b c d:Value):Builtin.max_ ats ty #[a,b,c,d]=(Builtin.max2 a b >>= fun s=>Builtin.max2 s c >>= fun s=>Builtin.max2 s d >>= fun s=>pure s):=by simp only [Builtin.max_,List.foldlM_cons,List.foldlM_nil]
theorem Yy (ats:Array TypeId) (ty:TypeId) (a b c d:Value):Builtin.min_ ats ty #[a,b,c,d]=(Builtin.min2 a b >>= fun s=>Builtin.min2 s c >>= fun s=>Builtin.min2 s d >>= fun s=>pure s):=by simp only [Builtin.min_,List.foldlM_cons,List.foldlM_nil]
end Go.Proofs.YtmhomdohhihlcaaW.PrintMore
namespace Go.Proofs.YtmhomdohhihlcaaW.PrintWords
open Go.RowKit
section
variable {P:Program} {ops:Array Oper} {rest:List Oper} {o:Oper} {a:Act} {Q:Exit→Act→World→Prop} {W:World}
theorem QK {f:FuncId} {aas:Array Operand} {ts:Array TypeId} (_ho:o.op = .call { callee:=.value (.func f),args:=aas,argTypes:=ts }) (h:wpList P ops Q (o::rest) a W):wpList P ops Q (o::rest) a W:=h
theorem qaZ {b:Builtin} {xs:Array Operand} {ts:Array TypeId} (_ho:o.op = .call { callee:=.builtin b,args:=xs,argTypes:=ts }) (h:wpList P ops Q (o::rest) a W):wpList P ops Q (o::rest) a W:=h
end
def mx (a b:Int):Int:=if a<b then b else a
def mn (a b:Int):Int:=if b<a then b else a
def shl (k:IntKind) (x y:Int):Int:=k.wrap (x*2 ^ min y.toNat k.bits)
def shr (k:IntKind) (x y:Int):Int:=x / 2 ^ min y.toNat k.bits
theorem qlb {k:IntKind} {x y j:Int} (h:shl k x y=j) (hy:y≤k.bits):k.wrap (x*2 ^ y.toNat)=j:=by rw [← h];unfold shl;rw [Nat.min_eq_left (by omega)]
theorem qlc {k:IntKind} {x y j:Int} (h:shr k x y=j) (hy:y≤k.bits):x / 2 ^ y.toNat=j:=by rw [← h];unfold shr;rw [Nat.min_eq_left (by omega)]
theorem qaq (w:World) (n:Nat):w.drewN n=w.drewN n:=rfl
end Go.Proofs.YtmhomdohhihlcaaW.PrintWords
namespace Go.Proofs.YtmhomdohhihlcaaW.PrintWords
open Go.RowKit
namespace Kd
def V {α:Type} (d:Kd α) (_e:Nat) (W:World) (_base:Nat) (ok:Nat→Prop) (v:Value) (xs:List α):Prop:=∃ A c,v = .slice A xs.length c∧xs.length≤c∧F d W ok A xs.length xs
section
variable {α β:Type} {d:Kd α} {e base base' n m c g N' lo hi:Nat} {ok ok' S:Nat→Prop} {w W w1:World} {A:Option Addr} {ad:Addr} {u v v1:Value} {xs:List α}
theorem qcf (h:V d e W base ok v xs) (hF:∀ A,F d W ok A xs.length xs→F d w1 ok' A xs.length xs):V d e w1 base' ok' v xs:=by
 obtain ⟨A,c,hv,hl,hf⟩:=h
 exact ⟨A,c,hv,hl,hF A hf⟩
theorem V_slice (h:V d e W base ok v xs):∃ A c,v = .slice A xs.length c:=by
 obtain ⟨A,c,hv,_⟩:=h
 exact ⟨A,c,hv⟩
theorem V_at (h:V d e W base ok (.slice A n c) xs):n=xs.length∧n≤c∧F d W ok A xs.length xs:=by
 obtain ⟨A',c',hv,hl,hf⟩:=h
 injection hv with ha hn hc
 subst ha;subst hc
 exact ⟨hn,by rw [hn];exact hl,hf⟩
theorem V_reads' (h:V d e W base ok (.slice A n c) xs):n=xs.length∧n≤c∧d.C W A xs.length xs:=⟨(V_at h).1,(V_at h).2.1,F_now (V_at h).2.2⟩
theorem V_nil (d:Kd α) (e:Nat) (W:World) (base:Nat) (ok:Nat→Prop):V d e W base ok (.slice none 0 0) []:=⟨none,0,rfl,Nat.le_refl _,qr5 d W ok⟩
theorem R_V (h:d.R e W base ok v xs):V d e W base' ok v xs:=by
 obtain ⟨A,c,rfl⟩:=R_slice h
 exact ⟨A,c,rfl,(R_reads' h).2.1,R_F h⟩
theorem V_mono (h:V d e W base ok v xs) (hok:∀ k,ok k→ok' k):V d e W base ok' v xs:=qcf h (fun _ hf=>qhK hf hok)
theorem V_lower (h:V d e W base ok v xs) (_:base'≤base):V d e W base' ok v xs:=h
theorem V_below (h:V d e W base ok v xs) (hb:Below W.heap.size W w1):V d e w1 base ok v xs:=qcf h (fun _ hf=>qcw hf hb)
theorem V_alloc (h:V d e W base ok v xs) (o:Obj):V d e (W.alloc o) base ok v xs:=qcf h (fun _ hf=>qnm hf o)
theorem V_drew (h:V d e W base ok v xs):V d e W.drew base ok v xs:=qcf h (fun _ hf=>qqx hf)
theorem V_drewN (h:V d e W base ok v xs) (m:Nat):V d e (W.drewN m) base ok v xs:=qcf h (fun _ hf=>qno hf m)
theorem V_far (h:V d e W base ok v xs) {p:Addr} (hok:∀ k,ok k→k≠p.block) (u:Value):V d e (W.setCell p u) base ok v xs:=qcf h (fun _ hf=>qr4 hf hok u)
theorem qnw (h:V d e W base (fun k=>ok k∧some k≠u.ownBlock) v xs) (hg:W.grownBy w1 u.ownBlock) (hat:v1.ownBlock=u.ownBlock ∨ ∃ b,v1.ownBlock=some b∧W.heap.size≤b):V d e w1 base (fun k=>ok k∧some k≠v1.ownBlock) v xs:=qcf h (fun _ hf=>qnl hf hg hat)
theorem V_afterv (h:V d e W base (fun k=>ok k∧some k≠v.ownBlock) u xs) (hg:W.grownBy w1 v.ownBlock) (hat:v1.ownBlock=v.ownBlock ∨ ∃ b,v1.ownBlock=some b∧W.heap.size≤b):V d e w1 base (fun k=>ok k∧some k≠v1.ownBlock) u xs:=qnw h hg hat
theorem V_elder' (h:V d e W base ok v xs) (hbase:∀ k,u.ownBlock=some k→W.heap.size≤k) (hb:Below W.heap.size W w1):V d e w1 base (fun k=>ok k∧some k≠u.ownBlock) v xs:=qcf h (fun _ hf=>qlD hf hbase hb)
theorem FK_slice_mk {l:List α} (hl:l.length≤c) (hf:F d W ok A l.length l):FK (Kd.slice e d) W ok l [.slice A l.length c]:=fun W' hW=>⟨A,c,rfl,hl,hf W' hW⟩
theorem R_newM {M:Nat→Prop} (h:d.R e w1 W.heap.size ok v xs) (hle:w.heap.size≤W.heap.size) (hM:∀ k,w.heap.size≤k→M k):d.R e w1 W.heap.size (fun k=>M k∧ok k) v xs:=R_mono (R_bound h) (fun k hk=>⟨hM k (Nat.le_trans hle hk.2.1),hk.1⟩)
end
end Kd
end Go.Proofs.YtmhomdohhihlcaaW.PrintWords
namespace Go.Proofs.Ytmhomdohhihlcaa.P
open Go.RowKit Go.Proofs.YtmhomdohhihlcaaW.PrintWords Go.Proofs.YtmhomdohhihlcaaW.PrintLast Go.Proofs.YtmhomdohhihlcaaW.PrintMore
section
universe u
def qmT:Nat→Nat→List Bool
 | 0,_=>[]
 | n+1,m=>(Nat.beq (m % 2) 1)::qmT n (m / 2)
abbrev Qg (n m:Nat):Array Bool:=(qmT n m).toArray
theorem Qe (a:Act) (v:Value) (d:Tmp):a.put (some d) v = { tmps:=a.tmps.setIfInBounds d v,defers:=a.defers }:=rfl
theorem Q7 (a:Act) (v:Value):a.put none v=a:=rfl
theorem Qd {α:Type u} (l:List α) (i:Nat) (a:α):l.toArray.setIfInBounds i a=(l.set i a).toArray:=List.setIfInBounds_toArray l i a
theorem Q9 {α:Type u} {x:α} {xs:List α} {a:α}:(x::xs).set 0 a=a::xs:=rfl
theorem Q8 {α:Type u} {x:α} {xs:List α} {i:Nat} {a:α}:(x::xs).set (i+1) a=x::xs.set i a:=rfl
theorem Qh {P:Program} {ops:Array Oper} {Q:Exit→Act→World→Prop} {md:Region.Mode} {S:World→Prop} {ds:List Nat} {T:Bool × List (List Nat × List Nat)} {oi:Oper} {v:Value} {fuel:Nat} {l:Array Bool} {a a':Act} {w:World} (i:Nat) (N:Option Tmp) (l':Array Bool) (hi:ops[i]? = some oi) (hN:oi.dst=N) (hT:rtab md ops=T) (hc:anyT T l.toList l'.toList i=true)
  (hQ:∀ c a w,Q (.panic c) (a.put oi.dst v) w→Q (.panic c) a w) (h:Yields P ops oi v a∧a.put N v=a'∧YH P md ops Q S ds fuel l' a' w):YH P md ops Q S ds (fuel+1) l a w:=qkm l' hi hN (qqK hT hc) hQ h.1 h.2.1 h.2.2
theorem Y6 {P:Program} {ops:Array Oper} {Q:Exit→Act→World→Prop} {md:Region.Mode} {S:World→Prop} {ds:List Nat} {oi:Oper} {v:Value} {fuel:Nat} {l:Array Bool} {a a':Act} {w:World} (i:Nat) (N:Option Tmp) (l':Array Bool) (hi:ops[i]? = some oi) (hN:oi.dst=N) (hc:qeE md ops ds l l' i=true)
  (hQ:∀ c a w,Q (.panic c) (a.put oi.dst v) w→Q (.panic c) a w) (hS:S w) (h:YieldsIf P ops S oi v a∧a.put N v=a'∧YH P md ops Q S ds fuel l' a' w):YH P md ops Q S ds (fuel+1) l a w:=qm7 l' hi hN hc hQ h.1 hS h.2.1 h.2.2
attribute [local go_sem] Yv Yx YK YL Yn Yo Yw Yy
def errW:Option Int→Value
 | none => .nilIface
 | some c => .iface 0 (.int .i64 c)
theorem QB:errW none = .nilIface:=rfl
theorem QC (c:Int):errW (some c) = .iface 0 (.int .i64 c):=rfl
theorem qaj:(Try.prog.info? 3).map (fun i=>(i.zero,i.size,i.bytes))=some (some (.int .i64 0),1,8):=by kernel_rfl
theorem qmH:(Try.prog.info? 25).map (fun i=>(i.zero,i.size,i.bytes))=some (some (.agg #[(.int .i64 0),(.int .i64 0)]),2,16):=by kernel_rfl
structure S25 where
 f0:Int
 f1:Int
def z25:S25:=⟨(0:Int),(0:Int)⟩
def k25:Kd S25:=Kd.iso (Kd.pair (Kd.int .i64) (Kd.int .i64)) (fun x:S25=>(x.f0,x.f1))
theorem qg1 {w:World} {x:S25} {cs:List Value} (h:k25.K w x cs):cs=[.int .i64 x.f0,.int .i64 x.f1]:=by
 obtain ⟨_,_,rfl,rfl,rfl⟩:=h
 exact rfl
theorem qk1 {w:World} {base:Nat} {ok:Nat→Prop} {x:S25} {cs:List Value} (h:k25.M w base ok x cs):cs=[.int .i64 x.f0,.int .i64 x.f1]:=by
 obtain ⟨_,_,rfl,rfl,rfl⟩:=h
 exact rfl
theorem qrl (w:World) (x:S25)  : k25.K w x [.int .i64 x.f0,.int .i64 x.f1]:=⟨[.int .i64 x.f0],[.int .i64 x.f1],rfl,rfl,rfl⟩
theorem Uh (w:World) (base:Nat) (ok:Nat→Prop) (x:S25)  : k25.M w base ok x [.int .i64 x.f0,.int .i64 x.f1]:=⟨[.int .i64 x.f0],[.int .i64 x.f1],rfl,rfl,rfl⟩
def YX (xs:List S25) (i:Int):S25:=xs.getD i.toNat z25
theorem WO {w:World} {A:Option Addr} {n:Nat} {xs:List S25} (h:Kd.C k25 w A n xs) (i:Int) (h0:0≤i) (h1:i<n):∃ ad ,A=some ad∧w.cell? (ad.add (i.toNat*2))=some (.int .i64 (YX xs i).f0)∧w.cell? ⟨(ad.add (i.toNat*2)).block,(ad.add (i.toNat*2)).off+1,none⟩=some (.int .i64 (YX xs i).f1):=by
 obtain ⟨ad,c,e,_,hK,hc0⟩:=Kd.C_get h z25 i h0 h1
 have hc:∀ j u,c[j]? = some u→w.cell? (ad.add (i.toNat*2+j))=some u:=hc0
 obtain rfl:=qg1 hK
 exact ⟨ad,e,hc 0 _ rfl,by rw [← KV _ _ 1 (by omega)];exact hc 1 _ rfl⟩
structure S68 where
 f0:Int
 f1:S25
def z68:S68:=⟨(0:Int),z25⟩
def k68:Kd S68:=Kd.iso (Kd.pair (Kd.int .i64) k25) (fun x:S68=>(x.f0,x.f1))
theorem qmK {w:World} {x:S68} {cs:List Value} (h:k68.K w x cs):cs=[.int .i64 x.f0,.int .i64 x.f1.f0,.int .i64 x.f1.f1]:=by
 obtain ⟨_,_,rfl,rfl,s1⟩:=h
 obtain rfl:=qg1 s1
 exact rfl
theorem qfv (w:World) (base:Nat) (ok:Nat→Prop) (x:S68)  : k68.M w base ok x [.int .i64 x.f0,.int .i64 x.f1.f0,.int .i64 x.f1.f1]:=⟨[.int .i64 x.f0],[.int .i64 x.f1.f0,.int .i64 x.f1.f1],rfl,rfl,(Uh w base ok x.f1 )⟩
def Yr (xs:List S68) (i:Int):S68:=xs.getD i.toNat z68
theorem qeT {w:World} {A:Option Addr} {n:Nat} {xs:List S68} (h:Kd.C k68 w A n xs) (i:Int) (h0:0≤i) (h1:i<n):∃ ad ,A=some ad∧w.cell? (ad.add (i.toNat*3))=some (.int .i64 (Yr xs i).f0)∧w.cell? ⟨(ad.add (i.toNat*3)).block,(ad.add (i.toNat*3)).off+1,none⟩=some (.int .i64 (Yr xs i).f1.f0)∧w.cell? ⟨(ad.add (i.toNat*3)).block,(ad.add (i.toNat*3)).off+2,none⟩=some (.int .i64 (Yr xs i).f1.f1):=by
 obtain ⟨ad,c,e,_,hK,hc0⟩:=Kd.C_get h z68 i h0 h1
 have hc:∀ j u,c[j]? = some u→w.cell? (ad.add (i.toNat*3+j))=some u:=hc0
 obtain rfl:=qmK hK
 exact ⟨ad,e,hc 0 _ rfl,by rw [← KV _ _ 1 (by omega)];exact hc 1 _ rfl,by rw [← KV _ _ 2 (by omega)];exact hc 2 _ rfl⟩
def JW (xs:List (List S25)) (i:Int):(List S25):=xs.getD i.toNat ([]:List S25)
theorem ql2 {w:World} {A:Option Addr} {n:Nat} {xs:List (List S25)} (h:Kd.C (Kd.slice 25 k25) w A n xs) (i:Int) (h0:0≤i) (h1:i<n):∃ ad A0 c0,A=some ad∧w.cell? (ad.add i.toNat)=some (.slice A0 (JW xs i).length c0)∧(JW xs i).length≤c0∧k25.C w A0 (JW xs i).length (JW xs i):=by
 obtain ⟨ad,c,e,_,hK,hc0⟩:=Kd.C_get h ([]:List S25) i h0 h1
 have hc:∀ j u,c[j]? = some u→w.cell? (ad.add (i.toNat*1+j))=some u:=hc0
 obtain ⟨A0,c0,rfl,l0,g0⟩:=hK
 exact ⟨ad,A0,c0,e,by have hq:=hc 0 _ rfl;rwa [Nat.mul_one,Nat.add_zero] at hq,l0,g0⟩
def Yq (xs:List (List Int)) (i:Int):(List Int):=xs.getD i.toNat ([]:List Int)
theorem qjr {w:World} {A:Option Addr} {n:Nat} {xs:List (List Int)} (h:Kd.C (Kd.slice 3 (Kd.int .i64)) w A n xs) (i:Int) (h0:0≤i) (h1:i<n):∃ ad A0 c0,A=some ad∧w.cell? (ad.add i.toNat)=some (.slice A0 (Yq xs i).length c0)∧(Yq xs i).length≤c0∧(Kd.int .i64).C w A0 (Yq xs i).length (Yq xs i):=by
 obtain ⟨ad,c,e,_,hK,hc0⟩:=Kd.C_get h ([]:List Int) i h0 h1
 have hc:∀ j u,c[j]? = some u→w.cell? (ad.add (i.toNat*1+j))=some u:=hc0
 obtain ⟨A0,c0,rfl,l0,g0⟩:=hK
 exact ⟨ad,A0,c0,e,by have hq:=hc 0 _ rfl;rwa [Nat.mul_one,Nat.add_zero] at hq,l0,g0⟩
structure S39 where
 f0:(List Int)
 f1:(List Int)
 f2:(List Int)
 f3:Int
 f4:Int
def z39:S39:=⟨([]:List Int),([]:List Int),([]:List Int),(0:Int),(0:Int)⟩
def k39:Kd S39:=Kd.iso (Kd.pair (Kd.slice 3 (Kd.int .i64)) (Kd.pair (Kd.slice 3 (Kd.int .i64)) (Kd.pair (Kd.slice 3 (Kd.int .i64)) (Kd.pair (Kd.int .i64) (Kd.int .i64))))) (fun x:S39=>(x.f0,x.f1,x.f2,x.f3,x.f4))
theorem qg2 {w:World} {x:S39} {cs:List Value} (h:k39.K w x cs):∃ A0 c0 A1 c1 A2 c2,cs=[.slice A0 x.f0.length c0,.slice A1 x.f1.length c1,.slice A2 x.f2.length c2,.int .i64 x.f3,.int .i64 x.f4]∧x.f0.length≤c0∧(Kd.int .i64).C w A0 x.f0.length x.f0∧x.f1.length≤c1∧(Kd.int .i64).C w A1 x.f1.length x.f1∧x.f2.length≤c2∧(Kd.int .i64).C w A2 x.f2.length x.f2:=by
 obtain ⟨_,_,rfl,⟨A0,c0,rfl,l0,g0⟩,⟨_,_,rfl,⟨A1,c1,rfl,l1,g1⟩,⟨_,_,rfl,⟨A2,c2,rfl,l2,g2⟩,⟨_,_,rfl,rfl,rfl⟩⟩⟩⟩:=h
 exact ⟨A0,c0,A1,c1,A2,c2,rfl,l0,g0,l1,g1,l2,g2⟩
theorem qmJ (w:World) (x:S39) {A0:Option Addr} {c0:Nat} (l0:x.f0.length≤c0) (g0:(Kd.int .i64).C w A0 x.f0.length x.f0) {A1:Option Addr} {c1:Nat} (l1:x.f1.length≤c1) (g1:(Kd.int .i64).C w A1 x.f1.length x.f1) {A2:Option Addr} {c2:Nat} (l2:x.f2.length≤c2) (g2:(Kd.int .i64).C w A2 x.f2.length x.f2):k39.K w x [.slice A0 x.f0.length c0,.slice A1 x.f1.length c1,.slice A2 x.f2.length c2,.int .i64 x.f3,.int .i64 x.f4]:=⟨[.slice A0 x.f0.length c0],[.slice A1 x.f1.length c1,.slice A2 x.f2.length c2,.int .i64 x.f3,.int .i64 x.f4],rfl,⟨A0,c0,rfl,l0,g0⟩,⟨[.slice A1 x.f1.length c1],[.slice A2 x.f2.length c2,.int .i64 x.f3,.int .i64 x.f4],rfl,⟨A1,c1,rfl,l1,g1⟩,⟨[.slice A2 x.f2.length c2],[.int .i64 x.f3,.int .i64 x.f4],rfl,⟨A2,c2,rfl,l2,g2⟩,⟨[.int .i64 x.f3],[.int .i64 x.f4],rfl,rfl,rfl⟩⟩⟩⟩
theorem qkj (W:World) (ok:Nat→Prop) (x:S39) {A0:Option Addr} {c0:Nat} (l0:x.f0.length≤c0) (g0:Kd.F (Kd.int .i64) W ok A0 x.f0.length x.f0) {A1:Option Addr} {c1:Nat} (l1:x.f1.length≤c1) (g1:Kd.F (Kd.int .i64) W ok A1 x.f1.length x.f1) {A2:Option Addr} {c2:Nat} (l2:x.f2.length≤c2) (g2:Kd.F (Kd.int .i64) W ok A2 x.f2.length x.f2):Kd.FK k39 W ok x [.slice A0 x.f0.length c0,.slice A1 x.f1.length c1,.slice A2 x.f2.length c2,.int .i64 x.f3,.int .i64 x.f4]:=fun W2 hW=>qmJ W2 x l0 (g0 W2 hW) l1 (g1 W2 hW) l2 (g2 W2 hW)
def Qm (xs:List S39) (i:Int):S39:=xs.getD i.toNat z39
theorem qhN {w:World} {A:Option Addr} {n:Nat} {xs:List S39} (h:Kd.C k39 w A n xs) (i:Int) (h0:0≤i) (h1:i<n):∃ ad A0 c0 A1 c1 A2 c2,A=some ad∧w.cell? (ad.add (i.toNat*5))=some (.slice A0 (Qm xs i).f0.length c0)∧w.cell? ⟨(ad.add (i.toNat*5)).block,(ad.add (i.toNat*5)).off+1,none⟩=some (.slice A1 (Qm xs i).f1.length c1)∧w.cell? ⟨(ad.add (i.toNat*5)).block,(ad.add (i.toNat*5)).off+2,none⟩=some (.slice A2 (Qm xs i).f2.length c2)∧w.cell? ⟨(ad.add (i.toNat*5)).block,(ad.add (i.toNat*5)).off+3,none⟩=some (.int .i64 (Qm xs i).f3)∧w.cell? ⟨(ad.add (i.toNat*5)).block,(ad.add (i.toNat*5)).off+4,none⟩=some (.int .i64 (Qm xs i).f4)∧(Qm xs i).f0.length≤c0∧(Kd.int .i64).C w A0 (Qm xs i).f0.length (Qm xs i).f0∧(Qm xs i).f1.length≤c1∧(Kd.int .i64).C w A1 (Qm xs i).f1.length (Qm xs i).f1∧(Qm xs i).f2.length≤c2∧(Kd.int .i64).C w A2 (Qm xs i).f2.length (Qm xs i).f2:=by
 obtain ⟨ad,c,e,_,hK,hc0⟩:=Kd.C_get h z39 i h0 h1
 have hc:∀ j u,c[j]? = some u→w.cell? (ad.add (i.toNat*5+j))=some u:=hc0
 obtain ⟨A0,c0,A1,c1,A2,c2,rfl,l0,g0,l1,g1,l2,g2⟩:=qg2 hK
 exact ⟨ad,A0,c0,A1,c1,A2,c2,e,hc 0 _ rfl,by rw [← KV _ _ 1 (by omega)];exact hc 1 _ rfl,by rw [← KV _ _ 2 (by omega)];exact hc 2 _ rfl,by rw [← KV _ _ 3 (by omega)];exact hc 3 _ rfl,by rw [← KV _ _ 4 (by omega)];exact hc 4 _ rfl,l0,g0,l1,g1,l2,g2⟩
def QU (xs:List (List (List Int))) (i:Int):(List (List Int)):=xs.getD i.toNat ([]:List (List Int))
theorem ql3 {w:World} {A:Option Addr} {n:Nat} {xs:List (List (List Int))} (h:Kd.C (Kd.slice 37 (Kd.slice 3 (Kd.int .i64))) w A n xs) (i:Int) (h0:0≤i) (h1:i<n):∃ ad A0 c0,A=some ad∧w.cell? (ad.add i.toNat)=some (.slice A0 (QU xs i).length c0)∧(QU xs i).length≤c0∧(Kd.slice 3 (Kd.int .i64)).C w A0 (QU xs i).length (QU xs i):=by
 obtain ⟨ad,c,e,_,hK,hc0⟩:=Kd.C_get h ([]:List (List Int)) i h0 h1
 have hc:∀ j u,c[j]? = some u→w.cell? (ad.add (i.toNat*1+j))=some u:=hc0
 obtain ⟨A0,c0,rfl,l0,g0⟩:=hK
 exact ⟨ad,A0,c0,e,by have hq:=hc 0 _ rfl;rwa [Nat.mul_one,Nat.add_zero] at hq,l0,g0⟩
structure Jd where
 f0:Int
 f1:Int
def qve:Jd:=⟨(0:Int),(0:Int)⟩
def qbM:Kd Jd:=Kd.iso (Kd.pair (Kd.int .i64) (Kd.int .i64)) (fun x:Jd=>(x.f0,x.f1))
theorem qk0 {w:World} {x:Jd} {cs:List Value} (h:qbM.K w x cs):cs=[.int .i64 x.f0,.int .i64 x.f1]:=by
 obtain ⟨_,_,rfl,rfl,rfl⟩:=h
 exact rfl
theorem qbN (w:World) (base:Nat) (ok:Nat→Prop) (x:Jd)  : qbM.M w base ok x [.int .i64 x.f0,.int .i64 x.f1]:=⟨[.int .i64 x.f0],[.int .i64 x.f1],rfl,rfl,rfl⟩
def Kb (xs:List Jd) (i:Int):Jd:=xs.getD i.toNat qve
theorem qjs {w:World} {A:Option Addr} {n:Nat} {xs:List Jd} (h:Kd.C qbM w A n xs) (i:Int) (h0:0≤i) (h1:i<n):∃ ad ,A=some ad∧w.cell? (ad.add (i.toNat*2))=some (.int .i64 (Kb xs i).f0)∧w.cell? ⟨(ad.add (i.toNat*2)).block,(ad.add (i.toNat*2)).off+1,none⟩=some (.int .i64 (Kb xs i).f1):=by
 obtain ⟨ad,c,e,_,hK,hc0⟩:=Kd.C_get h qve i h0 h1
 have hc:∀ j u,c[j]? = some u→w.cell? (ad.add (i.toNat*2+j))=some u:=hc0
 obtain rfl:=qk0 hK
 exact ⟨ad,e,hc 0 _ rfl,by rw [← KV _ _ 1 (by omega)];exact hc 1 _ rfl⟩
end
section
attribute [local go_sem] Yv Yx YK YL Yn Yo Yw Yy
def QQ.f (a0:Int) (a1:Int) (a2:Int):Option (Bool):=if a1≤a0 then (some (decide (a0≤a2))) else (some false)
set_option maxHeartbeats 8000000 in
set_option maxRecDepth 100000 in
theorem QQ.calls (a0:Int) (a1:Int) (a2:Int) (r:Bool) (w:World) (h:QQ.f a0 a1 a2=some r) :
  Calls Try.prog 34 #[.int .i64 a0,.int .i64 a1,.int .i64 a2] w fun e w'=>e = .returned (.bool r)∧Z3 w w':=by
 have H:(if a1≤a0 then (some (decide (a0≤a2))) else (some false))=some r:=h
 clear h
 by_cases c4:a1≤a0
 ·
  rw [if_pos c4] at H
  have c4b0:decide (a1≤a0)=true:=decide_eq_true c4
  clear c4
  obtain rfl:=Option.some.inj H
  go_enter Try.func34,Try.ntmps34
  go_wp2
  go_ret
  exact ⟨by first|rfl|(simp;done)|(simp [*];done),by repeat (first|exact Z3.refl _|apply Z3.step)⟩
 rw [if_neg c4] at H
 have c4b0:decide (a1≤a0)=false:=decide_eq_false c4
 clear c4
 obtain rfl:=Option.some.inj H
 go_enter Try.func34,Try.ntmps34
 go_wp2
 go_ret
 exact ⟨by first|rfl|(simp;done)|(simp [*];done),by repeat (first|exact Z3.refl _|apply Z3.step)⟩
end
section
def ar6 (n:List Int):List Value:=[.int .i64 (rd n 0),.int .i64 (rd n 1),.int .i64 (rd n 2),.int .i64 (rd n 3),.int .i64 (rd n 4),.int .i64 (rd n 5)]
def Is6 (W:World) (g:Nat) (n:List Int):Prop:=W.heap[g]? = some (.cells (ar6 n).toArray 115 (0,0))
namespace Is6
variable {W:World} {g:Nat} {n:List Int}
theorem lt (h:Is6 W g n):g<W.heap.size:=QY h
theorem cells (h:Is6 W g n):W.cell? ⟨g,0,none⟩=some (.int .i64 (rd n 0))∧W.cell? ⟨g,1,none⟩=some (.int .i64 (rd n 1))∧W.cell? ⟨g,2,none⟩=some (.int .i64 (rd n 2))∧W.cell? ⟨g,3,none⟩=some (.int .i64 (rd n 3))∧W.cell? ⟨g,4,none⟩=some (.int .i64 (rd n 4))∧W.cell? ⟨g,5,none⟩=some (.int .i64 (rd n 5)) :=
 ⟨(Qb h 0).trans rfl,(Qb h 1).trans rfl,(Qb h 2).trans rfl,(Qb h 3).trans rfl,(Qb h 4).trans rfl,(Qb h 5).trans rfl⟩
theorem frozen (h:Is6 W g n):W.frozen? ⟨g,0,none⟩=false∧W.frozen? ⟨g,1,none⟩=false∧W.frozen? ⟨g,2,none⟩=false∧W.frozen? ⟨g,3,none⟩=false∧W.frozen? ⟨g,4,none⟩=false∧W.frozen? ⟨g,5,none⟩=false :=
 ⟨Qc h 0,Qc h 1,Qc h 2,Qc h 3,Qc h 4,Qc h 5⟩
theorem cell (h:Is6 W g n) (i:Nat) (hi:i<6):W.cell? ⟨g,i,none⟩=some (.int .i64 (rd n i)):=by
 rw [Qb h i]
 match i,hi with
 | 0,_=>rfl
 | 1,_=>rfl
 | 2,_=>rfl
 | 3,_=>rfl
 | 4,_=>rfl
 | 5,_=>rfl
 | i+6,hi=>omega
theorem celli (h:Is6 W g n) (i:Int) (h0:0≤i) (h6:i<6):W.cell? ⟨g,i.toNat,none⟩=some (.int .i64 (rd n i)):=by
 have e:=h.cell i.toNat (by omega)
 rwa [show ((i.toNat:Nat):Int)=i by omega] at e
theorem frz (h:Is6 W g n) (i:Nat):W.frozen? ⟨g,i,none⟩=false:=Qc h i
theorem qo4 (n:List Int) (hn:n.length=6) (i:Nat) (hi:i<6) (x:Int):(ar6 n).toArray.setIfInBounds i (.int .i64 x)=(ar6 (n.set i x)).toArray:=by
 match n,hn with
 | [a,b,c,d,e,f],_ =>
  match i,hi with
  | 0,_=>rfl
  | 1,_=>rfl
  | 2,_=>rfl
  | 3,_=>rfl
  | 4,_=>rfl
  | 5,_=>rfl
  | i+6,hi=>omega
theorem set (h:Is6 W g n) (hn:n.length=6) (i:Nat) (hi:i<6) (x:Int):Is6 (W.setCell ⟨g,i,none⟩ (.int .i64 x)) g (n.set i x) :=
 QJ h i _ (qo4 n hn i hi x)
theorem seti (h:Is6 W g n) (hn:n.length=6) (i:Int) (h0:0≤i) (h6:i<6) (x:Int):Is6 (W.setCell ⟨g,i.toNat,none⟩ (.int .i64 x)) g (n.set i.toNat x):=h.set hn i.toNat (by omega) x
theorem far (h:Is6 W g n) {p:Addr} (hp:g≠p.block) (u:Value):Is6 (W.setCell p u) g n:=Qu h hp u
theorem alloc (h:Is6 W g n) (o:Obj):Is6 (W.alloc o) g n:=Q2 h o
theorem drew (h:Is6 W g n):Is6 W.drew g n:=h
theorem drewN (h:Is6 W g n) (m:Nat):Is6 (W.drewN m) g n:=h
theorem below {W1:World} (h:Is6 W g n) (hb:Below W.heap.size W W1):Is6 W1 g n:=Qp h hb
theorem put6 (h:Is6 W g n) (m:List Int):Is6 ((((((W.setCell ⟨g,0,none⟩ (.int .i64 (rd m 0))).setCell ⟨g,1,none⟩ (.int .i64 (rd m 1))).setCell ⟨g,2,none⟩ (.int .i64 (rd m 2))).setCell ⟨g,3,none⟩ (.int .i64 (rd m 3))).setCell ⟨g,4,none⟩ (.int .i64 (rd m 4))).setCell ⟨g,5,none⟩ (.int .i64 (rd m 5))) g m:=by
 refine QJ (QJ (QJ (QJ (QJ (QJ h 0 _ rfl) 1 _ rfl) 2 _ rfl) 3 _ rfl) 4 _ rfl) 5 _ ?_
 rfl
end Is6
theorem qia:∀ q,q∈3::(Kd.int .i64).E→q≠115:=by
 intro q hq
 have hq3:q=3:=by simpa [Kd.int,Kd.scalar] using hq
 omega
theorem qlQ {W:World} {g b:Nat} {n xs:List Int} {v:Value} (h:Kd.R (Kd.int .i64) 3 W b (fun _=>True) v xs) (h6:Is6 W g n) (j:Nat) (u:Value):Kd.R (Kd.int .i64) 3 (W.setCell ⟨g,j,none⟩ u) b (fun _=>True) v xs :=
 Kd.R_mono (Kd.R_far (p:=⟨g,j,none⟩) (Kd.R_types h h6 qia) (fun _ h=>h.2) u) (fun _ _=>trivial)
theorem qiO (l:List Int) (h:l.length≤6):splice (ar6 []) 0 (l.map (Value.int .i64))=ar6 l:=by
 match l,h with
 | [],_=>rfl
 | [_],_=>rfl
 | [_,_],_=>rfl
 | [_,_,_],_=>rfl
 | [_,_,_,_],_=>rfl
 | [_,_,_,_,_],_=>rfl
 | [_,_,_,_,_,_],_=>rfl
 | _::_::_::_::_::_::_::_,h=>simp at h
theorem qaR {w W:World} {A:Option Addr} {l:List Int} (h:Kd.C (Kd.int .i64) w A l.length l) (hb:Below w.heap.size w W) (h0:0<(l.map (Value.int .i64)).length):∃ ad,A=some ad ∧ ∀ j v,(l.map (Value.int .i64))[j]? = some v→W.cell? (ad.add j)=some v:=by
 have h:=Kd.C_below h hb
 rw [List.length_map] at h0
 obtain ⟨ad,e,hc⟩:=Kd.at_int h 0 (by omega) (by omega)
 refine ⟨ad,e,fun j v hv => ?_⟩
 have hj:j<l.length:=by simpa using (List.getElem?_eq_some_iff.1 hv).1
 obtain ⟨ad',e',hc'⟩:=Kd.at_int h j (by omega) (by omega)
 rw [e] at e'
 cases e'
 rw [List.getElem?_map,List.getElem?_eq_getElem hj] at hv
 simp only [Option.map_some,Option.some.injEq] at hv
 rw [← hv]
 rw [show ((j:Int).toNat)=j by simp] at hc'
 rw [hc']
 simp [rd,List.getD_eq_getElem?_getD,List.getElem?_eq_getElem hj]
theorem qoN {l:List Int} (hl:l.length≤6):(l.map (Value.int .i64)).length=Nat.min l.length 6:=by rw [List.length_map];exact (Nat.min_eq_left hl).symm
theorem qoO (l:List Int):∀ v∈l.map (Value.int .i64),v.oneCell'=true:=by intro v hv;obtain ⟨x,_,rfl⟩:=List.mem_map.1 hv;rfl
theorem WE {P:Program} (t e:TypeId) {i:TypeInfo} (ht:P.underlying t=some (.slice e)) (hi:P.info? e=some i) (A:Option Addr) (n c:Nat) (hc:n≤c) :
  ∀ W:World,(Instr.slice t (.slice A n c) none (some (.int .i64 n)) (some (.int .i64 n))).run P W = .ok (.slice A n n) W:=by
 intro W
 have hel:P.elem t=e:=by simp [Program.elem,ht]
 have hu:P.underlying t=some (.slice (P.elem t)):=by rw [hel];exact ht
 have ha:(A.map fun x=>x.add 0)=A:=by cases A<;>simp [Addr.add]
 rw [run_slice_hm W t A n c hu .i64 .i64 n n (by omega) (by omega) (by omega),hel]
 simp [sizeOf,typeInfo,hi,sliced,Result.andThen,ha]
theorem qlP {α:Type} {d:Kd α} {e base base' n c:Nat} {ok:Nat→Prop} {W:World} {A:Option Addr} {xs:List α} (h:d.R e W base ok (.slice A n c) xs) (m:Nat) (hm:m=xs.length):Kd.V d e W base' ok (.slice A m m) xs:=by
 subst hm
 have h2:=Kd.R_reads' h
 have hf:=Kd.R_F h
 rw [h2.1] at hf
 exact ⟨A,xs.length,rfl,Nat.le_refl _,hf⟩
theorem qeY {P : Program} {ops : Array Oper} {Q : Exit → Act → World → Prop} {oi : Oper} {N : Option Tmp} {a : Act} {w : World} {K : Act → World → Prop} {f : FuncId} {fn : Func} {ao : Array Operand} {ts : Array TypeId} (hf : P.funcs[f]? = some fn) (hname : (fn.name == "runtime.NumGoroutine") = false) (hb : fn.body.isSome = true) (args : Array Value) (t : Tmp)
  (hw:Region.wanted oi (yielded ops a.tmps)=true) (hN:oi.dst=N) (hop:oi.op = .call { callee:=.value (.tmp t),args:=ao,argTypes:=ts }) (hev:a.eval (.tmp t) = .func (.func f) #[] #[]) (hargs:ao.map a.eval=args)
  (h:Calls P f args w fun e w' => ∃ v,e = .returned v∧K (a.put N v) w'):if Region.wanted oi (yielded ops a.tmps)=true then Oper.wp P oi a w K Q else K (a.put N undef) w:=by
 refine ql4 f args hw hN ?_ h
 have he:=qaY hf hname hb args w
 unfold execOp
 simp [hop,resolve,Deferred.ofValue,invoke,hev,hargs,he]
theorem qa0 {P : Program} {ops : Array Oper} {Q : Exit → Act → World → Prop} {rest : List Oper} {oi : Oper} {a : Act} {w : World} (N : Option Tmp) (hd : oi.dst = N) (hg : oi.guard = none) {f : FuncId} {fn : Func} {ao : Array Operand} {ts : Array TypeId} (hf : P.funcs[f]? = some fn) (hname : (fn.name == "runtime.NumGoroutine") = false) (hb : fn.body.isSome = true) (args : Array Value) (t : Tmp) (bound caps : Array Value)
  (hop:oi.op = .call { callee:=.value (.tmp t),args:=ao,argTypes:=ts }) (hev:a.eval (.tmp t) = .func (.func f) bound caps) (hargs:bound++ao.map a.eval++caps=args)
  (h:Calls P f args w fun e w' => ∃ v,e = .returned v∧wpList P ops Q rest (a.put N v) w'):wpList P ops Q (oi::rest) a w:=by
 refine wpList_plain hg fun K hK => ?_
 have he:=qaY hf hname hb args w
 have hrun:(execOp a.eval oi).run P w = .ok (.enter f args) w:=by
  unfold execOp
  simp [hop,resolve,Deferred.ofValue,invoke,hev,hargs,he]
 unfold Oper.wp
 rw [hrun,Oper.upon_enter]
 refine h.mono fun e w'' hh => ?_
 obtain ⟨v,rfl,hk⟩:=hh
 subst hd
 exact hK _ _ hk
theorem qq6 (d:Nat) (w:World) (x0 x1 x2 x3 x4 x5 y0 y1 y2 y3 y4 y5:Int) :
  (Op.equalIn (d+2) 115 (.agg #[.int .i64 x0,.int .i64 x1,.int .i64 x2,.int .i64 x3,.int .i64 x4,.int .i64 x5]) (.agg #[.int .i64 y0,.int .i64 y1,.int .i64 y2,.int .i64 y3,.int .i64 y4,.int .i64 y5])).run Try.prog w = .ok (x0==y0&&(x1==y1&&(x2==y2&&(x3==y3&&(x4==y4&&(x5==y5)))))) w:=by
 obtain ⟨i0,hi,hz0,hz1,hz2⟩:=info_parts qaj
 have hu:=Try.underlying3
 rw [Op.equalIn]
 simp only [Sem.run_bind,run_underlying Try.underlying115,Result.andThen_ok,sizeOf,typeInfo]
 simp only [Std.Legacy.Range.forIn_eq_forIn_range',Std.Legacy.Range.size,List.range'_succ]
 have he:∀ (a b:Int) (w:World),(Op.equalIn (d+1) 3 (.int .i64 a) (.int .i64 b)).run Try.prog w = .ok (a==b) w:=fun a b w=>run_equalIn_int w d 3 .i64 .i64 a b hu
 simp [forIn,part,hi,hz1,he,-beq_eq_false_iff_ne,-beq_iff_eq,-bne_iff_ne]
 repeat (split<;>simp_all [-beq_eq_false_iff_ne,-beq_iff_eq])
end
section
attribute [local go_sem] Yv Yx YK YL Yn Yo Yw Yy
def Qv.f (a0:Int) (a1:Int) (a2:Int):Option (Bool):=if a1≤a0 then (some (decide (a0≤a2))) else (some false)
set_option maxHeartbeats 8000000 in
set_option maxRecDepth 100000 in
theorem Qv.calls (a0:Int) (a1:Int) (a2:Int) (r:Bool) (w:World) (h:Qv.f a0 a1 a2=some r) :
  Calls Try.prog 65 #[.int .i64 a0,.int .i64 a1,.int .i64 a2] w fun e w'=>e = .returned (.bool r)∧Z3 w w':=by
 have H:(if a1≤a0 then (some (decide (a0≤a2))) else (some false))=some r:=h
 clear h
 by_cases c4:a1≤a0
 ·
  rw [if_pos c4] at H
  have c4b0:decide (a1≤a0)=true:=decide_eq_true c4
  clear c4
  obtain rfl:=Option.some.inj H
  go_enter Try.func65,Try.ntmps65
  go_wp2
  go_ret
  exact ⟨by first|rfl|(simp;done)|(simp [*];done),by repeat (first|exact Z3.refl _|apply Z3.step)⟩
 rw [if_neg c4] at H
 have c4b0:decide (a1≤a0)=false:=decide_eq_false c4
 clear c4
 obtain rfl:=Option.some.inj H
 go_enter Try.func65,Try.ntmps65
 go_wp2
 go_ret
 exact ⟨by first|rfl|(simp;done)|(simp [*];done),by repeat (first|exact Z3.refl _|apply Z3.step)⟩
end
section
attribute [local go_sem] Yv Yx YK YL Yn Yo Yw Yy
mutual
def Qo.j0:Nat→Int→Bool→List Int→List Int→List Int→Int→Int→Option (Bool)
 | 0,_,_,_,_,_,_,_=>none
 | k+1,x3,x4,OG,OH,OI,Wg,Wh=>Qo.l0 k x3 x4 0 OG OH OI Wg Wh
def Qo.l0:Nat→Int→Bool→Int→List Int→List Int→List Int→Int→Int→Option (Bool)
 | 0,_,_,_,_,_,_,_,_=>none
 | k+1,x3,x4,x5,OG,OH,OI,Wg,Wh=>if x4=true then (Qo.j2 k x3 x4 x5 (decide (x5<x3)) OG OH OI Wg Wh) else (Qo.j2 k x3 x4 x5 false OG OH OI Wg Wh)
def Qo.j2:Nat→Int→Bool→Int→Bool→List Int→List Int→List Int→Int→Int→Option (Bool)
 | 0,_,_,_,_,_,_,_,_,_=>none
 | k+1,x3,x4,x5,x47,OG,OH,OI,Wg,Wh=>if x47=true then (if 0≤x5 then (if x5<(OG.length:Int) then ((Qv.f (rd OG x5) 0 100000).bind fun qlg=>(if qlg=true then (if x5<(OH.length:Int) then ((Qv.f (rd OH x5) 0 1000).bind fun qek=>(if qek=true then (if x5<(OI.length:Int) then ((Qv.f (rd OI x5) 0 100).bind fun qaO=>(Qo.l0 k x3 qaO (wrap64 (x5+1)) OG OH OI Wg Wh)) else (none)) else (Qo.l0 k x3 false (wrap64 (x5+1)) OG OH OI Wg Wh))) else (none)) else (Qo.l0 k x3 false (wrap64 (x5+1)) OG OH OI Wg Wh))) else (none)) else (none)) else (some x4)
end
def Qo.f (k:Nat) (Qi:List Int) (Qn:List Int) (Ql:List Int) (QD:Int) (QA:Int):Option (Bool):=(Qv.f (Qi.length:Int) 1 6).bind fun t145=>(if t145=true then (if (Qn.length:Int)=(Qi.length:Int) then (if (Ql.length:Int)=(Qi.length:Int) then ((Qv.f QD 0 100000000).bind fun t146=>(if t146=true then ((Qv.f QA 0 (wrap64 ((Qi.length:Int)-1))).bind fun qaN=>(Qo.j0 k (Qi.length:Int) qaN Qi Qn Ql QD QA)) else (Qo.j0 k (Qi.length:Int) false Qi Qn Ql QD QA))) else (Qo.j0 k (Qi.length:Int) false Qi Qn Ql QD QA)) else (Qo.j0 k (Qi.length:Int) false Qi Qn Ql QD QA)) else (Qo.j0 k (Qi.length:Int) false Qi Qn Ql QD QA))
set_option maxHeartbeats 8000000 in
set_option maxRecDepth 100000 in
theorem Qo.calls (k:Nat) (QT:Option Addr) (QF:Nat) (Qi:List Int) (QR:Option Addr) (QH:Nat) (Qn:List Int) (QV:Option Addr) (QI:Nat) (Ql:List Int) (QD:Int) (QA:Int) (r:Bool) (w:World) (Gf:Kd.C (Kd.int .i64) w QT Qi.length Qi) (Gl:Qi.length≤QF) (Gg:Kd.C (Kd.int .i64) w QR Qn.length Qn) (Gm:Qn.length≤QH) (Gh:Kd.C (Kd.int .i64) w QV Ql.length Ql) (Gn:Ql.length≤QI) (h:Qo.f k Qi Qn Ql QD QA=some r) :
  Calls Try.prog 76 #[.agg #[.slice QT Qi.length QF,.slice QR Qn.length QH,.slice QV Ql.length QI,.int .i64 QD,.int .i64 QA]] w fun e w'=>e = .returned (.bool r)∧Below w.heap.size w w':=by
 have qmB:=Try.underlying111
 have ZU:=Q0.mk Gf
 have JA:=Q0.mk Gl
 clear Gf Gl
 have Jc:=Q0.mk Gg
 have JC:=Q0.mk Gm
 clear Gg Gm
 have Jg:=Q0.mk Gh
 have JD:=Q0.mk Gn
 clear Gh Gn
 have HB:=Q0.mk (Below.refl w.heap.size w)
 have H:((Qv.f (Qi.length:Int) 1 6).bind fun t145=>(if t145=true then (if (Qn.length:Int)=(Qi.length:Int) then (if (Ql.length:Int)=(Qi.length:Int) then ((Qv.f QD 0 100000000).bind fun t146=>(if t146=true then ((Qv.f QA 0 (wrap64 ((Qi.length:Int)-1))).bind fun qaN=>(Qo.j0 k (Qi.length:Int) qaN Qi Qn Ql QD QA)) else (Qo.j0 k (Qi.length:Int) false Qi Qn Ql QD QA))) else (Qo.j0 k (Qi.length:Int) false Qi Qn Ql QD QA)) else (Qo.j0 k (Qi.length:Int) false Qi Qn Ql QD QA)) else (Qo.j0 k (Qi.length:Int) false Qi Qn Ql QD QA)))=some r:=h
 clear h
 have HC2:=Q0.mk H
 clear H
 go_enter Try.func76,Try.ntmps76
 go_upto_region 2 with (first|((with_reducible refine Ya (N:=1) rfl ?_);(try (refine Jp (by rfl) ?_;dsimp only));refine YD ?hg (N:=1) ?hd (cs:=#[.slice QT Qi.length QF,.slice QR Qn.length QH,.slice QV Ql.length QI,.int .i64 QD,.int .i64 QA]) (t:=111) ?hr ?_;(case hd=>rfl);(case hg=>rfl);(case hr=>first|(go_simp;done)|(go_simp;rfl));intro J3 hg w3 hbox hb;have n0_:=Q0.mk (Qx (by repeat (first|(with_reducible first|exact HB.out|apply Q4|apply Q1|apply Qa)|exact HB.out)) hb);have n1_:=Q0.mk (hbox);have n2_:=Q0.mk ((by rw [hg];exact (Qq (by repeat (first|(with_reducible first|exact HB.out|apply Q4|apply Q1|apply Qa)|exact HB.out))):w.heap.size≤J3));have n3_:=n2_;clear HB;have HB:=n0_;have YI:=n1_;have qCY:=n2_;have Xd:=n3_;clear n0_ n1_ n2_ n3_ hb hbox hg;have Gu:w3.cell? ⟨J3,0,none⟩=some (.slice QT Qi.length QF):=(Qb YI.out 0).trans rfl;have Gv:w3.cell? ⟨J3,1,none⟩=some (.slice QR Qn.length QH):=(Qb YI.out 1).trans rfl;have GG:w3.cell? ⟨J3,2,none⟩=some (.slice QV Ql.length QI):=(Qb YI.out 2).trans rfl;have qat:w3.cell? ⟨J3,3,none⟩=some (.int .i64 QD):=(Qb YI.out 3).trans rfl;have qau:w3.cell? ⟨J3,4,none⟩=some (.int .i64 QA):=(Qb YI.out 4).trans rfl;have Gw:=Qc YI.out 0;have Gx:=Qc YI.out 1;have GH:=Qc YI.out 2;have qax:=Qc YI.out 3;have qay:=Qc YI.out 4))
 (try simp only [Qe,Q7,Qd,Q9,Q8])
 go_cut [4] (fun v4 wc => ∃ (kq:Nat) (Xa:Bool),v4 = .bool Xa∧Q0 (Qo.j0 kq (Qi.length:Int) Xa Qi Qn Ql QD QA=some r)∧Q0 (kq≤k)∧Q0 (wc.heap[J3]? = some (.cells #[(.slice QT Qi.length QF),(.slice QR Qn.length QH),(.slice QV Ql.length QI),.int .i64 QD,.int .i64 QA] 111 (0,0)))∧Q0 (Below w.heap.size w wc))
 case first =>
  have H:=HC2.out
  clear HC2
  replace H:=Option.bind_eq_some_iff.mp H
  obtain ⟨t145,A50,H⟩:=H
  replace H:(if t145=true then (if (Qn.length:Int)=(Qi.length:Int) then (if (Ql.length:Int)=(Qi.length:Int) then ((Qv.f QD 0 100000000).bind fun t146=>(if t146=true then ((Qv.f QA 0 (wrap64 ((Qi.length:Int)-1))).bind fun qaN=>(Qo.j0 k (Qi.length:Int) qaN Qi Qn Ql QD QA)) else (Qo.j0 k (Qi.length:Int) false Qi Qn Ql QD QA))) else (Qo.j0 k (Qi.length:Int) false Qi Qn Ql QD QA)) else (Qo.j0 k (Qi.length:Int) false Qi Qn Ql QD QA)) else (Qo.j0 k (Qi.length:Int) false Qi Qn Ql QD QA))=some r:=H
  have A5:=Q0.mk A50
  clear A50
  by_cases c6:t145=true
  ·
   subst c6
   have H1:(if (Qn.length:Int)=(Qi.length:Int) then (if (Ql.length:Int)=(Qi.length:Int) then ((Qv.f QD 0 100000000).bind fun t146=>(if t146=true then ((Qv.f QA 0 (wrap64 ((Qi.length:Int)-1))).bind fun qaN=>(Qo.j0 k (Qi.length:Int) qaN Qi Qn Ql QD QA)) else (Qo.j0 k (Qi.length:Int) false Qi Qn Ql QD QA))) else (Qo.j0 k (Qi.length:Int) false Qi Qn Ql QD QA)) else (Qo.j0 k (Qi.length:Int) false Qi Qn Ql QD QA))=some r:=by rw [if_pos rfl] at H;exact H
   clear H
   have H:=H1
   clear H1
   by_cases c7:(Qn.length:Int)=(Qi.length:Int)
   ·
    rw [if_pos c7] at H;have c7b0:((Qn.length:Int)==(Qi.length:Int))=true:=beq_iff_eq.mpr c7;have c7b1:((Qn.length:Int) != (Qi.length:Int))=false:=bne_eq_false_iff_eq.mpr c7
    have c7b2:(Qn.length==Qi.length)=true:=by first|simpa using c7|(simp at c7 ⊢;omega)
    clear c7
    (first|rw [c7b0]|(simp only [Qj,Qk];rw [c7b0])|skip)
    by_cases c8:(Ql.length:Int)=(Qi.length:Int)
    ·
     rw [if_pos c8] at H;have c8b0:((Ql.length:Int)==(Qi.length:Int))=true:=beq_iff_eq.mpr c8;have c8b1:((Ql.length:Int) != (Qi.length:Int))=false:=bne_eq_false_iff_eq.mpr c8
     have c8b2:(Ql.length==Qi.length)=true:=by first|simpa using c8|(simp at c8 ⊢;omega)
     clear c8;replace H:=Option.bind_eq_some_iff.mp H;obtain ⟨t146,A90,H⟩:=H;replace H:(if t146=true then ((Qv.f QA 0 (wrap64 ((Qi.length:Int)-1))).bind fun qaN=>(Qo.j0 k (Qi.length:Int) qaN Qi Qn Ql QD QA)) else (Qo.j0 k (Qi.length:Int) false Qi Qn Ql QD QA))=some r:=H;have A9:=Q0.mk A90;clear A90
     by_cases c10:t146=true
     ·
      subst c10
      have H1:((Qv.f QA 0 (wrap64 ((Qi.length:Int)-1))).bind fun qaN=>(Qo.j0 k (Qi.length:Int) qaN Qi Qn Ql QD QA))=some r:=by rw [if_pos rfl] at H;exact H
      clear H;have H:=H1;clear H1;replace H:=Option.bind_eq_some_iff.mp H;obtain ⟨qaN,qly,H⟩:=H;replace H:(Qo.j0 k (Qi.length:Int) qaN Qi Qn Ql QD QA)=some r:=H;have A11:=Q0.mk qly;clear qly;have H':=Q0.mk H;clear H
      go_wp2_with (first|((with_reducible refine QK (f:=65) rfl ?_);refine YP (some 11) rfl rfl Try.func65 (by kernel_rfl) rfl #[.int .i64 (Qi.length:Int),.int .i64 1,.int .i64 6] rfl (by (try simp only [List.map_toArray,List.map_cons,List.map_nil]);first|done|rfl|(simp only [List.length_drop,List.length_take];rfl)) ?_;(with_reducible refine (Qv.calls (Qi.length:Int) 1 6 true _ A5.out).mono ?_);rintro e w' ⟨rfl,⟨nd,rfl⟩⟩;refine ⟨_,rfl,?_⟩;have OX:w3.cell? ⟨J3,0,none⟩=some (.slice QT Qi.length QF):=(Qb YI.out 0).trans rfl;have OY:w3.cell? ⟨J3,1,none⟩=some (.slice QR Qn.length QH):=(Qb YI.out 1).trans rfl;have UD:w3.cell? ⟨J3,2,none⟩=some (.slice QV Ql.length QI):=(Qb YI.out 2).trans rfl;have WS:w3.cell? ⟨J3,3,none⟩=some (.int .i64 QD):=(Qb YI.out 3).trans rfl;have WT:w3.cell? ⟨J3,4,none⟩=some (.int .i64 QA):=(Qb YI.out 4).trans rfl;have U7:=Qc YI.out 0;have U8:=Qc YI.out 1;have UQ:=Qc YI.out 2;have WW:=Qc YI.out 3;have WX:=Qc YI.out 4)|(go_at_call 65;(with_reducible refine (Qv.calls QD 0 100000000 true _ A9.out).mono ?_);rintro e w' ⟨rfl,⟨nd,rfl⟩⟩)|(go_at_call 65;(with_reducible refine (Qv.calls QA 0 (wrap64 ((Qi.length:Int)-1)) qaN _ A11.out).mono ?_);rintro e w' ⟨rfl,⟨nd,rfl⟩⟩))
      go_meet
      case rel=>exact ⟨_,(qaN),(by first|rfl|(simp;done)|(simp [*];done)),H',⟨by first|omega|exact Nat.le_refl _⟩,⟨by (with_reducible repeat (first|refine Q3 ?_ _|refine Q6 ?_|refine Q2 ?_ _));exact YI.out⟩,⟨by repeat (first|(with_reducible first|exact HB.out|apply Q4|apply Q1|apply Qa|refine Q5 ?_ Xd.out)|exact HB.out)⟩⟩
     replace c10:=Bool.eq_false_iff.mpr c10;subst c10
     have H1:(Qo.j0 k (Qi.length:Int) false Qi Qn Ql QD QA)=some r:=by rw [if_neg (show ¬ (false=true) by decide)] at H;exact H
     clear H;have H:=H1;clear H1;have H':=Q0.mk H;clear H
     go_wp2_with (first|((with_reducible refine QK (f:=65) rfl ?_);refine YP (some 11) rfl rfl Try.func65 (by kernel_rfl) rfl #[.int .i64 (Qi.length:Int),.int .i64 1,.int .i64 6] rfl (by (try simp only [List.map_toArray,List.map_cons,List.map_nil]);first|done|rfl|(simp only [List.length_drop,List.length_take];rfl)) ?_;(with_reducible refine (Qv.calls (Qi.length:Int) 1 6 true _ A5.out).mono ?_);rintro e w' ⟨rfl,⟨nd,rfl⟩⟩;refine ⟨_,rfl,?_⟩;have UE:w3.cell? ⟨J3,0,none⟩=some (.slice QT Qi.length QF):=(Qb YI.out 0).trans rfl;have UF:w3.cell? ⟨J3,1,none⟩=some (.slice QR Qn.length QH):=(Qb YI.out 1).trans rfl;have UG:w3.cell? ⟨J3,2,none⟩=some (.slice QV Ql.length QI):=(Qb YI.out 2).trans rfl;have qeZ:w3.cell? ⟨J3,3,none⟩=some (.int .i64 QD):=(Qb YI.out 3).trans rfl;have qe0:w3.cell? ⟨J3,4,none⟩=some (.int .i64 QA):=(Qb YI.out 4).trans rfl;have UR:=Qc YI.out 0;have US:=Qc YI.out 1;have UT:=Qc YI.out 2;have qfd:=Qc YI.out 3;have qfe:=Qc YI.out 4)|(go_at_call 65;(with_reducible refine (Qv.calls QD 0 100000000 false _ A9.out).mono ?_);rintro e w' ⟨rfl,⟨nd,rfl⟩⟩))
     go_meet
     case rel=>exact ⟨_,(false),(by first|rfl|(simp;done)|(simp [*];done)),H',⟨by first|omega|exact Nat.le_refl _⟩,⟨by (with_reducible repeat (first|refine Q3 ?_ _|refine Q6 ?_|refine Q2 ?_ _));exact YI.out⟩,⟨by repeat (first|(with_reducible first|exact HB.out|apply Q4|apply Q1|apply Qa|refine Q5 ?_ Xd.out)|exact HB.out)⟩⟩
    rw [if_neg c8] at H;have c8b0:((Ql.length:Int)==(Qi.length:Int))=false:=beq_eq_false_iff_ne.mpr c8;have c8b1:((Ql.length:Int) != (Qi.length:Int))=true:=bne_iff_ne.mpr c8
    have c8b2:(Ql.length==Qi.length)=false:=by first|simpa using c8|(simp at c8 ⊢;omega)
    have H':=Q0.mk H;clear H
    go_wp2_with (first|((with_reducible refine QK (f:=65) rfl ?_);refine YP (some 11) rfl rfl Try.func65 (by kernel_rfl) rfl #[.int .i64 (Qi.length:Int),.int .i64 1,.int .i64 6] rfl (by (try simp only [List.map_toArray,List.map_cons,List.map_nil]);first|done|rfl|(simp only [List.length_drop,List.length_take];rfl)) ?_;(with_reducible refine (Qv.calls (Qi.length:Int) 1 6 true _ A5.out).mono ?_);rintro e w' ⟨rfl,⟨nd,rfl⟩⟩;refine ⟨_,rfl,?_⟩;have UH:w3.cell? ⟨J3,0,none⟩=some (.slice QT Qi.length QF):=(Qb YI.out 0).trans rfl;have UI:w3.cell? ⟨J3,1,none⟩=some (.slice QR Qn.length QH):=(Qb YI.out 1).trans rfl;have UJ:w3.cell? ⟨J3,2,none⟩=some (.slice QV Ql.length QI):=(Qb YI.out 2).trans rfl;have qe1:w3.cell? ⟨J3,3,none⟩=some (.int .i64 QD):=(Qb YI.out 3).trans rfl;have qe2:w3.cell? ⟨J3,4,none⟩=some (.int .i64 QA):=(Qb YI.out 4).trans rfl;have UU:=Qc YI.out 0;have UV:=Qc YI.out 1;have UW:=Qc YI.out 2;have qff:=Qc YI.out 3;have qfg:=Qc YI.out 4))
    go_meet
    case rel=>exact ⟨_,(false),(by first|rfl|(simp;done)|(simp [*];done)),H',⟨by first|omega|exact Nat.le_refl _⟩,⟨by (with_reducible repeat (first|refine Q3 ?_ _|refine Q6 ?_|refine Q2 ?_ _));exact YI.out⟩,⟨by repeat (first|(with_reducible first|exact HB.out|apply Q4|apply Q1|apply Qa|refine Q5 ?_ Xd.out)|exact HB.out)⟩⟩
   rw [if_neg c7] at H
   have c7b0:((Qn.length:Int)==(Qi.length:Int))=false:=beq_eq_false_iff_ne.mpr c7
   have c7b1:((Qn.length:Int) != (Qi.length:Int))=true:=bne_iff_ne.mpr c7
   have c7b2:(Qn.length==Qi.length)=false:=by first|simpa using c7|(simp at c7 ⊢;omega)
   (first|rw [c7b0]|(simp only [Qj,Qk];rw [c7b0])|skip)
   have H':=Q0.mk H
   clear H
   go_wp2_with (first|((with_reducible refine QK (f:=65) rfl ?_);refine YP (some 11) rfl rfl Try.func65 (by kernel_rfl) rfl #[.int .i64 (Qi.length:Int),.int .i64 1,.int .i64 6] rfl (by (try simp only [List.map_toArray,List.map_cons,List.map_nil]);first|done|rfl|(simp only [List.length_drop,List.length_take];rfl)) ?_;(with_reducible refine (Qv.calls (Qi.length:Int) 1 6 true _ A5.out).mono ?_);rintro e w' ⟨rfl,⟨nd,rfl⟩⟩;refine ⟨_,rfl,?_⟩;have OZ:w3.cell? ⟨J3,0,none⟩=some (.slice QT Qi.length QF):=(Qb YI.out 0).trans rfl;have U0:w3.cell? ⟨J3,1,none⟩=some (.slice QR Qn.length QH):=(Qb YI.out 1).trans rfl;have UK:w3.cell? ⟨J3,2,none⟩=some (.slice QV Ql.length QI):=(Qb YI.out 2).trans rfl;have UL:w3.cell? ⟨J3,3,none⟩=some (.int .i64 QD):=(Qb YI.out 3).trans rfl;have UM:w3.cell? ⟨J3,4,none⟩=some (.int .i64 QA):=(Qb YI.out 4).trans rfl;have U9:=Qc YI.out 0;have Ua:=Qc YI.out 1;have UX:=Qc YI.out 2;have UY:=Qc YI.out 3;have UZ:=Qc YI.out 4))
   go_meet
   case rel=>exact ⟨_,(false),(by first|rfl|(simp;done)|(simp [*];done)),H',⟨by first|omega|exact Nat.le_refl _⟩,⟨by (with_reducible repeat (first|refine Q3 ?_ _|refine Q6 ?_|refine Q2 ?_ _));exact YI.out⟩,⟨by repeat (first|(with_reducible first|exact HB.out|apply Q4|apply Q1|apply Qa|refine Q5 ?_ Xd.out)|exact HB.out)⟩⟩
  replace c6:=Bool.eq_false_iff.mpr c6
  subst c6
  have H1:(Qo.j0 k (Qi.length:Int) false Qi Qn Ql QD QA)=some r:=by rw [if_neg (show ¬ (false=true) by decide)] at H;exact H
  clear H
  have H:=H1
  clear H1
  have H':=Q0.mk H
  clear H
  go_wp2_with (first|((with_reducible refine QK (f:=65) rfl ?_);refine YP (some 11) rfl rfl Try.func65 (by kernel_rfl) rfl #[.int .i64 (Qi.length:Int),.int .i64 1,.int .i64 6] rfl (by (try simp only [List.map_toArray,List.map_cons,List.map_nil]);first|done|rfl|(simp only [List.length_drop,List.length_take];rfl)) ?_;(with_reducible refine (Qv.calls (Qi.length:Int) 1 6 false _ A5.out).mono ?_);rintro e w' ⟨rfl,⟨nd,rfl⟩⟩;refine ⟨_,rfl,?_⟩))
  go_meet
  case rel=>exact ⟨_,(false),(by first|rfl|(simp;done)|(simp [*];done)),H',⟨by first|omega|exact Nat.le_refl _⟩,⟨by (with_reducible repeat (first|refine Q3 ?_ _|refine Q6 ?_|refine Q2 ?_ _));exact YI.out⟩,⟨by repeat (first|(with_reducible first|exact HB.out|apply Q4|apply Q1|apply Qa|refine Q5 ?_ Xd.out)|exact HB.out)⟩⟩
 clear HC2
 try clear c1
 try clear p2
 try clear c6
 try clear p6
 try clear c7
 try clear c7b0
 try clear c7b1
 try clear c7b2
 try clear c8
 try clear c8b0
 try clear c8b1
 try clear c8b2
 try clear c10
 try clear OX
 try clear OY
 try clear UD
 try clear WS
 try clear WT
 try clear UE
 try clear UF
 try clear UG
 try clear qeZ
 try clear qe0
 try clear UH
 try clear UI
 try clear UJ
 try clear qe1
 try clear qe2
 try clear OZ
 try clear U0
 try clear UK
 try clear UL
 try clear UM
 try clear Gu
 try clear Gv
 try clear GG
 try clear qat
 try clear qau
 try clear U7
 try clear U8
 try clear UQ
 try clear WW
 try clear WX
 try clear UR
 try clear US
 try clear UT
 try clear qfd
 try clear qfe
 try clear UU
 try clear UV
 try clear UW
 try clear qff
 try clear qfg
 try clear U9
 try clear Ua
 try clear UX
 try clear UY
 try clear UZ
 try clear Gw
 try clear Gx
 try clear GH
 try clear qax
 try clear qay
 obtain ⟨kq,Xa,rfl,HA,HJ1,YI,HB⟩:=hcut
 cases kq with
 | zero=>exact absurd HA.out (by simp [Qo.j0])
 | succ kj1 =>
  have H:=HA.out
  clear HA
  simp only [Qo.j0] at H
  have H':=Q0.mk H
  clear H
  go_wp2
  go_loopg [4,5] kj1 (fun kq v4 v5 w' => ∃ (O2:Bool) (Y0:Int),v4 = .bool O2∧v5 = .int .i64 Y0∧Q0 (Qo.l0 kq (Qi.length:Int) O2 Y0 Qi Qn Ql QD QA=some r)∧Q0 (kq≤kj1)∧Q0 (w'.heap[J3]? = some (.cells #[(.slice QT Qi.length QF),(.slice QR Qn.length QH),(.slice QV Ql.length QI),.int .i64 QD,.int .i64 QA] 111 (0,0)))∧Q0 (Below w.heap.size w w'))
  case atStart=>exact ⟨(Xa),(0),(by first|rfl|(simp;done)|(simp [*];done)),(by first|rfl|(simp;done)|(simp [*];done)),H',⟨Nat.le_refl _⟩,⟨by (with_reducible repeat (first|refine Q3 ?_ _|refine Q6 ?_|refine Q2 ?_ _));exact YI.out⟩,⟨by repeat (first|(with_reducible first|exact HB.out|apply Q4|apply Q1|apply Qa|refine Q5 ?_ Xd.out)|exact HB.out)⟩⟩
  clear H'
  try clear c1
  try clear p2
  try clear c6
  try clear p6
  try clear c7
  try clear c7b0
  try clear c7b1
  try clear c7b2
  try clear c8
  try clear c8b0
  try clear c8b1
  try clear c8b2
  try clear c10
  try clear OX
  try clear OY
  try clear UD
  try clear WS
  try clear WT
  try clear UE
  try clear UF
  try clear UG
  try clear qeZ
  try clear qe0
  try clear UH
  try clear UI
  try clear UJ
  try clear qe1
  try clear qe2
  try clear OZ
  try clear U0
  try clear UK
  try clear UL
  try clear UM
  try clear Gu
  try clear Gv
  try clear GG
  try clear qat
  try clear qau
  try clear U7
  try clear U8
  try clear UQ
  try clear WW
  try clear WX
  try clear UR
  try clear US
  try clear UT
  try clear qfd
  try clear qfe
  try clear UU
  try clear UV
  try clear UW
  try clear qff
  try clear qfg
  try clear U9
  try clear Ua
  try clear UX
  try clear UY
  try clear UZ
  try clear Gw
  try clear Gx
  try clear GH
  try clear qax
  try clear qay
  try clear p2
  try clear p6
  obtain ⟨O2,Y0,rfl,rfl,HA,HK2,YI,HB⟩:=hrel
  cases gk with
  | zero=>exact absurd HA.out (by simp [Qo.l0])
  | succ k2 =>
   have H:=HA.out
   clear HA
   simp only [Qo.l0] at H
   have qqA:=Q0.mk H
   clear H
   go_upto_region 4 with (fail)
   go_cut [47] (fun v47 wc => ∃ (kq:Nat) (qf2:Bool),v47 = .bool qf2∧Q0 (Qo.j2 kq (Qi.length:Int) O2 Y0 qf2 Qi Qn Ql QD QA=some r)∧Q0 (kq≤k2)∧Q0 (wc.heap[J3]? = some (.cells #[(.slice QT Qi.length QF),(.slice QR Qn.length QH),(.slice QV Ql.length QI),.int .i64 QD,.int .i64 QA] 111 (0,0)))∧Q0 (Below w.heap.size w wc))
   case first =>
    have H:=qqA.out;clear qqA
    by_cases c17:O2=true
    ·
     subst c17
     have H1:(Qo.j2 k2 (Qi.length:Int) true Y0 (decide (Y0<(Qi.length:Int))) Qi Qn Ql QD QA)=some r:=by rw [if_pos rfl] at H;exact H
     clear H;have H:=H1;clear H1;have H':=Q0.mk H;clear H
     go_wp2
     go_meet
     case rel=>exact ⟨_,(decide (Y0<(Qi.length:Int))),(by first|rfl|(simp;done)|(simp [*];done)),H',⟨by have:=HJ1.out;have:=HK2.out;first|omega|exact Nat.le_refl _⟩,⟨by (with_reducible repeat (first|refine Q3 ?_ _|refine Q6 ?_|refine Q2 ?_ _));exact YI.out⟩,⟨by repeat (first|(with_reducible first|exact HB.out|apply Q4|apply Q1|apply Qa|refine Q5 ?_ Xd.out)|exact HB.out)⟩⟩
    replace c17:=Bool.eq_false_iff.mpr c17;subst c17
    have H1:(Qo.j2 k2 (Qi.length:Int) false Y0 false Qi Qn Ql QD QA)=some r:=by rw [if_neg (show ¬ (false=true) by decide)] at H;exact H
    clear H;have H:=H1;clear H1;have H':=Q0.mk H;clear H
    go_wp2
    go_meet
    case rel=>exact ⟨_,(false),(by first|rfl|(simp;done)|(simp [*];done)),H',⟨by have:=HJ1.out;have:=HK2.out;first|omega|exact Nat.le_refl _⟩,⟨by (with_reducible repeat (first|refine Q3 ?_ _|refine Q6 ?_|refine Q2 ?_ _));exact YI.out⟩,⟨by repeat (first|(with_reducible first|exact HB.out|apply Q4|apply Q1|apply Qa|refine Q5 ?_ Xd.out)|exact HB.out)⟩⟩
   clear qqA
   try clear c1
   try clear p2
   try clear c6
   try clear p6
   try clear c7
   try clear c7b0
   try clear c7b1
   try clear c7b2
   try clear c8
   try clear c8b0
   try clear c8b1
   try clear c8b2
   try clear c10
   try clear c17
   try clear OX
   try clear OY
   try clear UD
   try clear WS
   try clear WT
   try clear UE
   try clear UF
   try clear UG
   try clear qeZ
   try clear qe0
   try clear UH
   try clear UI
   try clear UJ
   try clear qe1
   try clear qe2
   try clear OZ
   try clear U0
   try clear UK
   try clear UL
   try clear UM
   try clear Gu
   try clear Gv
   try clear GG
   try clear qat
   try clear qau
   try clear U7
   try clear U8
   try clear UQ
   try clear WW
   try clear WX
   try clear UR
   try clear US
   try clear UT
   try clear qfd
   try clear qfe
   try clear UU
   try clear UV
   try clear UW
   try clear qff
   try clear qfg
   try clear U9
   try clear Ua
   try clear UX
   try clear UY
   try clear UZ
   try clear Gw
   try clear Gx
   try clear GH
   try clear qax
   try clear qay
   try clear p2
   try clear p6
   obtain ⟨kq,qf2,rfl,HA,qkJ,YI,HB⟩:=hcut
   cases kq with
   | zero=>exact absurd HA.out (by simp [Qo.j2])
   | succ Xs =>
    have H:=HA.out;clear HA;simp only [Qo.j2] at H
    by_cases c18:qf2=true
    ·
     subst c18
     have H1:(if 0≤Y0 then (if Y0<(Qi.length:Int) then ((Qv.f (rd Qi Y0) 0 100000).bind fun qlg=>(if qlg=true then (if Y0<(Qn.length:Int) then ((Qv.f (rd Qn Y0) 0 1000).bind fun qek=>(if qek=true then (if Y0<(Ql.length:Int) then ((Qv.f (rd Ql Y0) 0 100).bind fun qaO=>(Qo.l0 Xs (Qi.length:Int) qaO (wrap64 (Y0+1)) Qi Qn Ql QD QA)) else (none)) else (Qo.l0 Xs (Qi.length:Int) false (wrap64 (Y0+1)) Qi Qn Ql QD QA))) else (none)) else (Qo.l0 Xs (Qi.length:Int) false (wrap64 (Y0+1)) Qi Qn Ql QD QA))) else (none)) else (none))=some r:=by rw [if_pos rfl] at H;exact H
     clear H;have H:=H1;clear H1
     by_cases c19:0≤Y0
     ·
      rw [if_pos c19] at H;have c19b0:decide (0≤Y0)=true:=decide_eq_true c19;clear c19
      by_cases c20:Y0<(Qi.length:Int)
      ·
       rw [if_pos c20] at H;have c20b0:decide (Y0<(Qi.length:Int))=true:=decide_eq_true c20;clear c20;replace H:=Option.bind_eq_some_iff.mp H;obtain ⟨qlg,qlB,H⟩:=H;replace H:(if qlg=true then (if Y0<(Qn.length:Int) then ((Qv.f (rd Qn Y0) 0 1000).bind fun qek=>(if qek=true then (if Y0<(Ql.length:Int) then ((Qv.f (rd Ql Y0) 0 100).bind fun qaO=>(Qo.l0 Xs (Qi.length:Int) qaO (wrap64 (Y0+1)) Qi Qn Ql QD QA)) else (none)) else (Qo.l0 Xs (Qi.length:Int) false (wrap64 (Y0+1)) Qi Qn Ql QD QA))) else (none)) else (Qo.l0 Xs (Qi.length:Int) false (wrap64 (Y0+1)) Qi Qn Ql QD QA))=some r:=H;have A21:=Q0.mk qlB;clear qlB
       by_cases c22:qlg=true
       ·
        subst c22
        have H1:(if Y0<(Qn.length:Int) then ((Qv.f (rd Qn Y0) 0 1000).bind fun qek=>(if qek=true then (if Y0<(Ql.length:Int) then ((Qv.f (rd Ql Y0) 0 100).bind fun qaO=>(Qo.l0 Xs (Qi.length:Int) qaO (wrap64 (Y0+1)) Qi Qn Ql QD QA)) else (none)) else (Qo.l0 Xs (Qi.length:Int) false (wrap64 (Y0+1)) Qi Qn Ql QD QA))) else (none))=some r:=by rw [if_pos rfl] at H;exact H
        clear H;have H:=H1;clear H1
        by_cases c23:Y0<(Qn.length:Int)
        ·
         rw [if_pos c23] at H;have c23b0:decide (Y0<(Qn.length:Int))=true:=decide_eq_true c23;clear c23;replace H:=Option.bind_eq_some_iff.mp H;obtain ⟨qek,qf8,H⟩:=H;replace H:(if qek=true then (if Y0<(Ql.length:Int) then ((Qv.f (rd Ql Y0) 0 100).bind fun qaO=>(Qo.l0 Xs (Qi.length:Int) qaO (wrap64 (Y0+1)) Qi Qn Ql QD QA)) else (none)) else (Qo.l0 Xs (Qi.length:Int) false (wrap64 (Y0+1)) Qi Qn Ql QD QA))=some r:=H;have A24:=Q0.mk qf8;clear qf8
         by_cases c25:qek=true
         ·
          subst c25
          have H1:(if Y0<(Ql.length:Int) then ((Qv.f (rd Ql Y0) 0 100).bind fun qaO=>(Qo.l0 Xs (Qi.length:Int) qaO (wrap64 (Y0+1)) Qi Qn Ql QD QA)) else (none))=some r:=by rw [if_pos rfl] at H;exact H
          clear H;have H:=H1;clear H1
          by_cases c26:Y0<(Ql.length:Int)
          ·
           rw [if_pos c26] at H;have c26b0:decide (Y0<(Ql.length:Int))=true:=decide_eq_true c26;clear c26;replace H:=Option.bind_eq_some_iff.mp H;obtain ⟨qaO,qrJ,H⟩:=H;replace H:(Qo.l0 Xs (Qi.length:Int) qaO (wrap64 (Y0+1)) Qi Qn Ql QD QA)=some r:=H;have A27:=Q0.mk qrJ;clear qrJ;have H':=Q0.mk H;clear H;have qe7:wc.cell? ⟨J3,0,none⟩=some (.slice QT Qi.length QF):=(Qb YI.out 0).trans rfl;have qe8:wc.cell? ⟨J3,1,none⟩=some (.slice QR Qn.length QH):=(Qb YI.out 1).trans rfl;have qvv:wc.cell? ⟨J3,2,none⟩=some (.slice QV Ql.length QI):=(Qb YI.out 2).trans rfl;have qvw:wc.cell? ⟨J3,3,none⟩=some (.int .i64 QD):=(Qb YI.out 3).trans rfl;have qvx:wc.cell? ⟨J3,4,none⟩=some (.int .i64 QA):=(Qb YI.out 4).trans rfl;have qfl:=Qc YI.out 0;have qfm:=Qc YI.out 1;have qxv:=Qc YI.out 2;have qxw:=Qc YI.out 3;have qxx:=Qc YI.out 4;have qdR:0≤(Y0:Int):=of_decide_eq_true (by first|(with_reducible assumption)|assumption);have qdT:Y0<(Qi.length:Int):=of_decide_eq_true (by first|(with_reducible assumption)|assumption);obtain ⟨qpZ,ql7,O8⟩:=Kd.at_int ZU.out Y0 qdR qdT;cases ql7;replace O8:=(HB.out.cell (World.block_lt_of_cell? w _ O8)).trans O8;replace qdR:=eq_true qdR;replace qdT:=eq_true qdT
           go_wp2_with (first|((with_reducible refine QK (f:=65) rfl ?_);refine YP (some 56) rfl rfl Try.func65 (by kernel_rfl) rfl #[.int .i64 (rd Qi Y0),.int .i64 0,.int .i64 100000] rfl (by (try simp only [List.map_toArray,List.map_cons,List.map_nil]);first|done|rfl|(simp only [List.length_drop,List.length_take];rfl)) ?_;(with_reducible refine (Qv.calls (rd Qi Y0) 0 100000 true _ A21.out).mono ?_);rintro e w' ⟨rfl,⟨nd,rfl⟩⟩;refine ⟨_,rfl,?_⟩;have qik:0≤(Y0:Int):=of_decide_eq_true (by first|(with_reducible assumption)|assumption);have qiB:Y0<(Qn.length:Int):=of_decide_eq_true (by first|(with_reducible assumption)|assumption);obtain ⟨qsA,qqV,X1⟩:=Kd.at_int Jc.out Y0 qik qiB;cases qqV;replace X1:=(HB.out.cell (World.block_lt_of_cell? w _ X1)).trans X1;replace qik:=eq_true qik;replace qiB:=eq_true qiB)|(go_at_call 65;(with_reducible refine (Qv.calls (rd Qn Y0) 0 1000 true _ A24.out).mono ?_);rintro e w' ⟨rfl,⟨nd,rfl⟩⟩;have qrq:0≤(Y0:Int):=of_decide_eq_true (by first|(with_reducible assumption)|assumption);have qrv:Y0<(Ql.length:Int):=of_decide_eq_true (by first|(with_reducible assumption)|assumption);obtain ⟨qDf,e152,qfs⟩:=Kd.at_int Jg.out Y0 qrq qrv;cases e152;replace qfs:=(HB.out.cell (World.block_lt_of_cell? w _ qfs)).trans qfs;replace qrq:=eq_true qrq;replace qrv:=eq_true qrv)|(go_at_call 65;(with_reducible refine (Qv.calls (rd Ql Y0) 0 100 qaO _ A27.out).mono ?_);rintro e w' ⟨rfl,⟨nd,rfl⟩⟩))
           go_roundg Xs
           case measure=>have:=HJ1.out;have:=HK2.out;have:=qkJ.out;omega
           case rel=>exact ⟨(qaO),(wrap64 (Y0+1)),(by first|rfl|(simp;done)|(simp [*];done)),(by first|rfl|(simp;done)|(simp [*];done)),H',⟨by have:=HJ1.out;have:=HK2.out;have:=qkJ.out;omega⟩,⟨by (with_reducible repeat (first|refine Q3 ?_ _|refine Q6 ?_|refine Q2 ?_ _));exact YI.out⟩,⟨by repeat (first|(with_reducible first|exact HB.out|apply Q4|apply Q1|apply Qa|refine Q5 ?_ Xd.out)|exact HB.out)⟩⟩
          rw [if_neg c26] at H
          exact absurd H (by simp)
         replace c25:=Bool.eq_false_iff.mpr c25;subst c25
         have H1:(Qo.l0 Xs (Qi.length:Int) false (wrap64 (Y0+1)) Qi Qn Ql QD QA)=some r:=by rw [if_neg (show ¬ (false=true) by decide)] at H;exact H
         clear H;have H:=H1;clear H1;have H':=Q0.mk H;clear H;have qbe:wc.cell? ⟨J3,0,none⟩=some (.slice QT Qi.length QF):=(Qb YI.out 0).trans rfl;have qbf:wc.cell? ⟨J3,1,none⟩=some (.slice QR Qn.length QH):=(Qb YI.out 1).trans rfl;have qbg:wc.cell? ⟨J3,2,none⟩=some (.slice QV Ql.length QI):=(Qb YI.out 2).trans rfl;have qcM:wc.cell? ⟨J3,3,none⟩=some (.int .i64 QD):=(Qb YI.out 3).trans rfl;have qcN:wc.cell? ⟨J3,4,none⟩=some (.int .i64 QA):=(Qb YI.out 4).trans rfl;have qbs:=Qc YI.out 0;have qbt:=Qc YI.out 1;have qbu:=Qc YI.out 2;have qc9:=Qc YI.out 3;have qda:=Qc YI.out 4;have qdR:0≤(Y0:Int):=of_decide_eq_true (by first|(with_reducible assumption)|assumption);have qdT:Y0<(Qi.length:Int):=of_decide_eq_true (by first|(with_reducible assumption)|assumption);obtain ⟨qpZ,ql7,O8⟩:=Kd.at_int ZU.out Y0 qdR qdT;cases ql7;replace O8:=(HB.out.cell (World.block_lt_of_cell? w _ O8)).trans O8;replace qdR:=eq_true qdR;replace qdT:=eq_true qdT
         go_wp2_with (first|((with_reducible refine QK (f:=65) rfl ?_);refine YP (some 56) rfl rfl Try.func65 (by kernel_rfl) rfl #[.int .i64 (rd Qi Y0),.int .i64 0,.int .i64 100000] rfl (by (try simp only [List.map_toArray,List.map_cons,List.map_nil]);first|done|rfl|(simp only [List.length_drop,List.length_take];rfl)) ?_;(with_reducible refine (Qv.calls (rd Qi Y0) 0 100000 true _ A21.out).mono ?_);rintro e w' ⟨rfl,⟨nd,rfl⟩⟩;refine ⟨_,rfl,?_⟩;have qik:0≤(Y0:Int):=of_decide_eq_true (by first|(with_reducible assumption)|assumption);have qiB:Y0<(Qn.length:Int):=of_decide_eq_true (by first|(with_reducible assumption)|assumption);obtain ⟨qsA,qqV,X1⟩:=Kd.at_int Jc.out Y0 qik qiB;cases qqV;replace X1:=(HB.out.cell (World.block_lt_of_cell? w _ X1)).trans X1;replace qik:=eq_true qik;replace qiB:=eq_true qiB)|(go_at_call 65;(with_reducible refine (Qv.calls (rd Qn Y0) 0 1000 false _ A24.out).mono ?_);rintro e w' ⟨rfl,⟨nd,rfl⟩⟩))
         go_roundg Xs
         case measure=>have:=HJ1.out;have:=HK2.out;have:=qkJ.out;omega
         case rel=>exact ⟨(false),(wrap64 (Y0+1)),(by first|rfl|(simp;done)|(simp [*];done)),(by first|rfl|(simp;done)|(simp [*];done)),H',⟨by have:=HJ1.out;have:=HK2.out;have:=qkJ.out;omega⟩,⟨by (with_reducible repeat (first|refine Q3 ?_ _|refine Q6 ?_|refine Q2 ?_ _));exact YI.out⟩,⟨by repeat (first|(with_reducible first|exact HB.out|apply Q4|apply Q1|apply Qa|refine Q5 ?_ Xd.out)|exact HB.out)⟩⟩
        rw [if_neg c23] at H
        exact absurd H (by simp)
       replace c22:=Bool.eq_false_iff.mpr c22;subst c22
       have H1:(Qo.l0 Xs (Qi.length:Int) false (wrap64 (Y0+1)) Qi Qn Ql QD QA)=some r:=by rw [if_neg (show ¬ (false=true) by decide)] at H;exact H
       clear H;have H:=H1;clear H1;have H':=Q0.mk H;clear H;have qvy:wc.cell? ⟨J3,0,none⟩=some (.slice QT Qi.length QF):=(Qb YI.out 0).trans rfl;have qvz:wc.cell? ⟨J3,1,none⟩=some (.slice QR Qn.length QH):=(Qb YI.out 1).trans rfl;have qvA:wc.cell? ⟨J3,2,none⟩=some (.slice QV Ql.length QI):=(Qb YI.out 2).trans rfl;have qvB:wc.cell? ⟨J3,3,none⟩=some (.int .i64 QD):=(Qb YI.out 3).trans rfl;have qvC:wc.cell? ⟨J3,4,none⟩=some (.int .i64 QA):=(Qb YI.out 4).trans rfl;have qxy:=Qc YI.out 0;have qxz:=Qc YI.out 1;have qxA:=Qc YI.out 2;have qxB:=Qc YI.out 3;have qxC:=Qc YI.out 4;have qdR:0≤(Y0:Int):=of_decide_eq_true (by first|(with_reducible assumption)|assumption);have qdT:Y0<(Qi.length:Int):=of_decide_eq_true (by first|(with_reducible assumption)|assumption);obtain ⟨qpZ,ql7,O8⟩:=Kd.at_int ZU.out Y0 qdR qdT;cases ql7;replace O8:=(HB.out.cell (World.block_lt_of_cell? w _ O8)).trans O8;replace qdR:=eq_true qdR;replace qdT:=eq_true qdT
       go_wp2_with (first|((with_reducible refine QK (f:=65) rfl ?_);refine YP (some 56) rfl rfl Try.func65 (by kernel_rfl) rfl #[.int .i64 (rd Qi Y0),.int .i64 0,.int .i64 100000] rfl (by (try simp only [List.map_toArray,List.map_cons,List.map_nil]);first|done|rfl|(simp only [List.length_drop,List.length_take];rfl)) ?_;(with_reducible refine (Qv.calls (rd Qi Y0) 0 100000 false _ A21.out).mono ?_);rintro e w' ⟨rfl,⟨nd,rfl⟩⟩;refine ⟨_,rfl,?_⟩))
       go_roundg Xs
       case measure=>have:=HJ1.out;have:=HK2.out;have:=qkJ.out;omega
       case rel=>exact ⟨(false),(wrap64 (Y0+1)),(by first|rfl|(simp;done)|(simp [*];done)),(by first|rfl|(simp;done)|(simp [*];done)),H',⟨by have:=HJ1.out;have:=HK2.out;have:=qkJ.out;omega⟩,⟨by (with_reducible repeat (first|refine Q3 ?_ _|refine Q6 ?_|refine Q2 ?_ _));exact YI.out⟩,⟨by repeat (first|(with_reducible first|exact HB.out|apply Q4|apply Q1|apply Qa|refine Q5 ?_ Xd.out)|exact HB.out)⟩⟩
      rw [if_neg c20] at H
      exact absurd H (by simp)
     rw [if_neg c19] at H
     exact absurd H (by simp)
    replace c18:=Bool.eq_false_iff.mpr c18;subst c18
    have H1:(some O2)=some r:=by rw [if_neg (show ¬ (false=true) by decide)] at H;exact H
    clear H;have H:=H1;clear H1;obtain rfl:=Option.some.inj H
    go_wp2
    go_ret
    exact ⟨by first|rfl|(simp [QB,QC]<;>rfl)|(simp [*,QB,QC]<;>rfl),by repeat (first|(with_reducible first|exact HB.out|apply Q4|apply Q1|apply Qa|refine Q5 ?_ Xd.out)|exact HB.out)⟩
end
section
set_option maxRecDepth 100000 in
theorem Z6.calls6 (A0:Option Addr) (c0:Nat) (l0:List Int) (A1:Option Addr) (c1 n1:Nat) (A2:Option Addr) (c2 n2:Nat) (a3 a4:Int) (w:World) (hr0:Kd.C (Kd.int .i64) w A0 l0.length l0) (hl:l0.length≤6) :
  Calls Try.prog 78 #[.agg #[.slice A0 l0.length c0,.slice A1 n1 c1,.slice A2 n2 c2,.int .i64 a3,.int .i64 a4]] w fun e w'=>e = .returned (.agg (ar6 l0).toArray)∧Below w.heap.size w w':=by
 have hu:=Try.underlying111
 have hu2:=Try.underlying39
 have hu3:=Try.underlying115
 have HL:=Q0.mk hl
 have HR0:=Q0.mk hr0
 clear hr0 hl
 go_enter Try.func78,Try.ntmps78
 go_wp2
 go_region_law (refine step_copy_splice rfl (.tmp 4) (.tmp 7) 37 37 rfl 3 Try.underlying37 (by kernel_rfl) (some ⟨w.heap.size+1+1,0,none⟩) A0 6 6 l0.length c0 rfl rfl (w.heap.size+1+1) 0 (ar6 []) 115 ?c1 (l0.map (Value.int .i64)) (qoN HL.out) ?c2 ?c3 (qoO l0) (w.heap.size+2) _ (Below.refl _ _) (Nat.le_refl _) ?_;(case c1=>exact Q6 (by have h:=UA (((w.alloc (.cells #[.slice A0 l0.length c0,.slice A1 n1 c1,.slice A2 n2 c2,.int .i64 a3,.int .i64 a4] 111)).alloc (.cells (ar6 []).toArray 115))) (.cells (ar6 []).toArray 115);simp only [World.size_alloc] at h;exact h));(case c2=>exact fun h0=>⟨rfl,qaR HR0.out (by repeat (first|exact Below.refl _ _|apply YA|apply Q4)) h0⟩);(case c3=>simpa [ar6] using HL.out);intro w4 hg4 hb4)
 have HG:=Q0.mk (show Is6 w4 (w.heap.size+1+1) l0 by have h:=hg4;unfold Hid at h;rw [qiO l0 HL.out] at h;exact h)
 have HZ:Is6 w4 (w.heap.size+1) []:=(hb4.block (w.heap.size+1) (by omega)).trans (Q6 (Q2 (by have h:=UA (w.alloc (.cells #[.slice A0 l0.length c0,.slice A1 n1 c1,.slice A2 n2 c2,.int .i64 a3,.int .i64 a4] 111)) (.cells (ar6 []).toArray 115);simp only [World.size_alloc] at h;exact h) _))
 have HZ:=Q0.mk HZ
 have HB:=Q0.mk (show Below w.heap.size w w4 from (YA (Q4 (Q4 (Q4 (Below.refl w.heap.size w) _) _) _)).trans (hb4.mono (by omega)))
 clear hg4 hb4
 obtain ⟨g0,g1,g2,g3,g4,g5⟩:=HG.out.cells
 obtain ⟨z0,z1,z2,z3,z4,z5⟩:=HZ.out.cells
 obtain ⟨f0,f1,f2,f3,f4,f5⟩:=HZ.out.frozen
 go_wp2
 refine bodyPost_ret (results_cell_row rfl _ _ (w.heap.size+1) 115 (ar6 l0).toArray (0,0) _ rfl (HZ.out.put6 l0) Try.underlying115 rfl (by kernel_rfl)) rfl ?_
 refine ⟨rfl,?_⟩
 have h1:w.heap.size≤w.heap.size+1:=by omega
 repeat (with_reducible first|exact HB.out|refine Q5 ?_ h1)
def Z6.f (Qi Qn Ql:List Int) (QD QA:Int):Option (Int × Int × Int × Int × Int × Int) :=
 if Qi.length≤6 then some (rd Qi 0,rd Qi 1,rd Qi 2,rd Qi 3,rd Qi 4,rd Qi 5) else none
theorem Z6.calls (QT:Option Addr) (QF:Nat) (Qi:List Int) (QR:Option Addr) (QH:Nat) (Qn:List Int) (QV:Option Addr) (QI:Nat) (Ql:List Int) (QD QA r1 r2 r3 r4 r5 r6:Int) (w:World)
  (Gf:Kd.C (Kd.int .i64) w QT Qi.length Qi) (Gl:Qi.length≤QF) (Gg:Kd.C (Kd.int .i64) w QR Qn.length Qn) (Gm:Qn.length≤QH) (Gh:Kd.C (Kd.int .i64) w QV Ql.length Ql) (Gn:Ql.length≤QI)
  (h:Z6.f Qi Qn Ql QD QA=some (r1,r2,r3,r4,r5,r6)) :
  Calls Try.prog 78 #[.agg #[.slice QT Qi.length QF,.slice QR Qn.length QH,.slice QV Ql.length QI,.int .i64 QD,.int .i64 QA]] w fun e w' =>
   e = .returned (.agg #[.int .i64 r1,.int .i64 r2,.int .i64 r3,.int .i64 r4,.int .i64 r5,.int .i64 r6])∧Below w.heap.size w w':=by
 unfold Z6.f at h
 by_cases hv:Qi.length≤6
 ·
  rw [if_pos hv] at h
  injection h with h
  simp only [Prod.mk.injEq] at h
  obtain ⟨rfl,rfl,rfl,rfl,rfl,rfl⟩:=h
  exact Z6.calls6 QT QF Qi QR QH Qn.length QV QI Ql.length QD QA w Gf hv
 · rw [if_neg hv] at h;exact absurd h (by simp)
end
section
attribute [local go_sem] Yv Yx YK YL Yn Yo Yw Yy
def Ye.l0:Nat→Int→List Int→Int→Int→Option (Int)
 | 0,_,_,_,_=>none
 | k+1,x3,x6,x7,x8=>if x8<x7 then (if 0≤x8 then (if x8<(x6.length:Int) then (Ye.l0 k (wrap64 (x3+(rd x6 x8))) x6 x7 (wrap64 (x8+1))) else (none)) else (none)) else (some x3)
def Ye.f (k:Nat) (l0:List Int):Option (Int):=Ye.l0 k 0 l0 (l0.length:Int) 0
theorem Ye.mono_l:∀ k,(∀ y0 y1 y2 y3,LeO (Ye.l0 k y0 y1 y2 y3) (Ye.l0 (k+1) y0 y1 y2 y3))
 | 0=>fun _ _ _ _ r h=>by simp [Ye.l0] at h
 | k+1=>by
  have ih0:=Ye.mono_l k
  intro y0 y1 y2 y3
  unfold Ye.l0
  repeat' first
  | (with_reducible exact ih0 _ _ _ _)
  | (with_reducible exact LeO.refl _)
  | (with_reducible exact LeO.none _)
  | (with_reducible refine LeO.ite ?_ ?_)
  | (with_reducible refine LeO.bind ?_ (fun _ => ?_))
  | exact ih0 _ _ _ _
  | exact LeO.none _
  | refine LeO.ite ?_ ?_
  | refine LeO.bind ?_ (fun _ => ?_)
theorem Ye.mono:∀ a0 k,LeO (Ye.f k a0) (Ye.f (k+1) a0):=by
 intro a0 k
 have ih0:=Ye.mono_l k
 unfold Ye.f
 repeat' first
   | (with_reducible exact ih0 _ _ _ _)
   | (with_reducible exact LeO.refl _)
   | (with_reducible exact LeO.none _)
   | (with_reducible refine LeO.ite ?_ ?_)
   | (with_reducible refine LeO.bind ?_ (fun _ => ?_))
   | exact ih0 _ _ _ _
   | exact LeO.none _
   | refine LeO.ite ?_ ?_
   | refine LeO.bind ?_ (fun _ => ?_)
set_option maxHeartbeats 8000000 in
set_option maxRecDepth 100000 in
theorem Ye.calls (k:Nat) (A0:Option Addr) (c0:Nat) (l0:List Int) (r:Int) (w:World) (hr0:Kd.C (Kd.int .i64) w A0 l0.length l0) (hc0:l0.length≤c0) (h:Ye.f k l0=some r) :
  Calls Try.prog 97 #[.slice A0 l0.length c0] w fun e w'=>e = .returned (.int .i64 r)∧Z3 w w':=by
 have HR0:=Q0.mk hr0
 have HC0:=Q0.mk hc0
 clear hr0 hc0
 have H:(Ye.l0 k 0 l0 (l0.length:Int) 0)=some r:=h
 clear h
 have H':=Q0.mk H
 clear H
 go_enter Try.func97,Try.ntmps97
 go_wp2
 go_loopg [3,8] k (fun kq v3 v8 w' => ∃ (qpg:Int) (Wr:Int),v3 = .int .i64 qpg∧v8 = .int .i64 Wr∧Q0 (Ye.l0 kq qpg l0 (l0.length:Int) Wr=some r)∧Q0 (kq≤k)∧Z3 w w')
 case atStart=>exact ⟨(0),(0),(by first|rfl|(simp;done)|(simp [*];done)),(by first|rfl|(simp;done)|(simp [*];done)),H',⟨Nat.le_refl _⟩,by repeat (first|exact Z3.refl _|apply Z3.step)⟩
 clear H'
 obtain ⟨qpg,Wr,rfl,rfl,HA,HK1,⟨m1,rfl⟩⟩:=hrel
 cases gk with
 | zero=>exact absurd HA.out (by simp [Ye.l0])
 | succ k1 =>
  have H:=HA.out
  clear HA
  simp only [Ye.l0] at H
  by_cases c2:Wr<(l0.length:Int)
  ·
   rw [if_pos c2] at H
   have c2b0:decide (Wr<(l0.length:Int))=true:=decide_eq_true c2
   clear c2
   by_cases c3:0≤Wr
   ·
    rw [if_pos c3] at H;have c3b0:decide (0≤Wr)=true:=decide_eq_true c3;clear c3
    by_cases c4:Wr<(l0.length:Int)
    ·
     rw [if_pos c4] at H;have c4b0:decide (Wr<(l0.length:Int))=true:=decide_eq_true c4;clear c4;have H':=Q0.mk H;clear H;have qrp:0≤(Wr:Int):=of_decide_eq_true (by first|(with_reducible assumption)|assumption);have qru:Wr<(l0.length:Int):=of_decide_eq_true (by first|(with_reducible assumption)|assumption);obtain ⟨qDe,qBe,qAT⟩:=Kd.at_int HR0.out Wr qrp qru;cases qBe;replace qrp:=eq_true qrp;replace qru:=eq_true qru
     go_wp2
     go_roundg k1
     case measure=>have:=HK1.out;omega
     case rel=>exact ⟨(wrap64 (qpg+(rd l0 Wr))),(wrap64 (Wr+1)),(by first|rfl|(simp;done)|(simp [*];done)),(by first|rfl|(simp;done)|(simp [*];done)),H',⟨by have:=HK1.out;omega⟩,by repeat (first|exact Z3.refl _|apply Z3.step)⟩
    rw [if_neg c4] at H
    exact absurd H (by simp)
   rw [if_neg c3] at H
   exact absurd H (by simp)
  rw [if_neg c2] at H
  have c2b0:decide (Wr<(l0.length:Int))=false:=decide_eq_false c2
  clear c2
  obtain rfl:=Option.some.inj H
  go_wp2
  go_ret
  exact ⟨by first|rfl|(simp;done)|(simp [*];done),by repeat (first|exact Z3.refl _|apply Z3.step)⟩
end
section
attribute [local go_sem] Yv Yx YK YL Yn Yo Yw Yy
def Kv (mesh:Int):Nat→List Int→Int→List Int × Int
 | 0,n,t=>(n,t)
 | j+1,n,t=>if mesh≤(j:Int) then Kv mesh j (n.set j (wrap64 (rd n j-mn (rd n j) t))) (wrap64 (t-mn (rd n j) t)) else (n,t)
def Of (n spawn:List Int) (k:Nat):List Int:=(List.range k).map fun i:Nat=>wrap64 (rd n i*rd spawn i)
def Oe (last:Int) (n keep:List Int):Nat→List Int
 | 0=>[0,0,0,0,0,0]
 | k+1=>(Oe last n keep k).set (mn ((k:Int)+1) last).toNat (wrap64 (rd (Oe last n keep k) (mn ((k:Int)+1) last)+wrap64 (Int.tdiv (wrap64 (rd n k*rd keep k)) 1000)))
def sumW (l:List Int):Int:=l.foldl (fun s x=>wrap64 (s+x)) 0
theorem qm3 (l:List Int) (hl:l.length≤9223372036854775806) (d:Nat):∀ (s:Int) (i:Nat),i≤l.length→l.length-i=d→Ye.l0 (d+1) s l (l.length:Int) i=some ((l.drop i).foldl (fun s x=>wrap64 (s+x)) s):=by
 induction d with
 | zero =>
  intro s i h1 h2
  obtain rfl:i=l.length:=by omega
  simp [Ye.l0]
 | succ d ih =>
  intro s i h1 h2
  have hi:i<l.length:=by omega
  rw [Ye.l0,if_pos (by omega),if_pos (by omega),if_pos (by omega)]
  have hw:wrap64 ((i:Int)+1)=((i+1:Nat):Int):=by unfold wrap64;omega
  rw [hw,ih _ (i+1) (by omega) (by omega)]
  conv=>rhs;rw [List.drop_eq_getElem_cons hi]
  simp only [rd,Int.toNat_natCast,List.getD_eq_getElem?_getD,List.getElem?_eq_getElem hi,Option.getD_some,List.foldl_cons]
theorem qo5 (l:List Int) (hl:l.length≤9223372036854775806):Ye.f (l.length+1) l=some (sumW l):=by
 have h:=qm3 l hl l.length 0 0 (by omega) (by omega)
 simpa [Ye.f,sumW] using h
theorem O0 (last:Int) (n keep:List Int):∀ k,(Oe last n keep k).length=6
 | 0=>rfl
 | k+1=>by rw [Oe,List.length_set,O0 last n keep k]
theorem qk4 (m i:Int) (h:m≤i) (h0:0≤m):0≤i:=by omega
set_option maxHeartbeats 4000000 in
set_option maxRecDepth 100000 in
theorem Zl.calls6 (A0:Option Addr) (c0 m:Nat) (A1:Option Addr) (c1:Nat) (l1:List Int) (A2:Option Addr) (c2:Nat) (l2:List Int) (a3 a4:Int) (n:List Int) (take rec_:Int) (w:World)
  (hn:n.length=6) (hm1:1≤m) (hm6:m≤6) (e1:l1.length=m) (e2:l2.length=m) (hm0:0≤a4) (hmm:a4<m) (hr1:Kd.C (Kd.int .i64) w A1 l1.length l1) (hr2:Kd.C (Kd.int .i64) w A2 l2.length l2) :
  Calls Try.prog 77 #[.agg #[.slice A0 m c0,.slice A1 l1.length c1,.slice A2 l2.length c2,.int .i64 a3,.int .i64 a4],.agg #[.int .i64 (rd n 0),.int .i64 (rd n 1),.int .i64 (rd n 2),.int .i64 (rd n 3),.int .i64 (rd n 4),.int .i64 (rd n 5)],.int .i64 take,.int .i64 rec_] w fun e w' =>
   e = .returned (.tuple #[.int .i64 (sumW (Of (Kv a4 m n take).1 l2 m)),.agg (ar6 ((Oe ((m:Int)-1) (Kv a4 m n take).1 l1 m).set 0 (wrap64 (rd (Oe ((m:Int)-1) (Kv a4 m n take).1 l1 m) 0+rec_)))).toArray])∧Below w.heap.size w w':=by
 have hu:=Try.underlying111
 have hu2:=Try.underlying39
 have hu3:=Try.underlying115
 have HR1:=Q0.mk hr1
 have HR2:=Q0.mk hr2
 have HN:=Q0.mk hn
 have HE1:=Q0.mk e1
 have HE2:=Q0.mk e2
 have HB:=Q0.mk (Below.refl w.heap.size w)
 clear hr1 hr2 hn e1 e2
 obtain ⟨R,hR⟩:∃ R,R=Kv a4 m n take:=⟨_,rfl⟩
 rw [← hR]
 have HRR:=Q0.mk hR
 clear hR
 go_enter Try.func77,Try.ntmps77
 go_wp2_with (fail)
 have BR0:(((w.alloc (.cells #[.slice A0 m c0,.slice A1 l1.length c1,.slice A2 l2.length c2,.int .i64 a3,.int .i64 a4] 111)).alloc (.cells (ar6 n).toArray 115)).alloc (.cells (ar6 []).toArray 115)).heap[w.heap.size]? = some (.cells #[.slice A0 m c0,.slice A1 l1.length c1,.slice A2 l2.length c2,.int .i64 a3,.int .i64 a4] 111 (0,0)):=Q2 (Q2 (UA w _) _) _
 have I50:Is6 (((w.alloc (.cells #[.slice A0 m c0,.slice A1 l1.length c1,.slice A2 l2.length c2,.int .i64 a3,.int .i64 a4] 111)).alloc (.cells (ar6 n).toArray 115)).alloc (.cells (ar6 []).toArray 115)) (w.heap.size+1) n:=by
  have h:=UA (w.alloc (.cells #[.slice A0 m c0,.slice A1 l1.length c1,.slice A2 l2.length c2,.int .i64 a3,.int .i64 a4] 111)) (.cells (ar6 n).toArray 115)
  rw [World.size_alloc] at h
  exact Q2 h _
 have I90:Is6 (((w.alloc (.cells #[.slice A0 m c0,.slice A1 l1.length c1,.slice A2 l2.length c2,.int .i64 a3,.int .i64 a4] 111)).alloc (.cells (ar6 n).toArray 115)).alloc (.cells (ar6 []).toArray 115)) (w.heap.size+1+1) []:=by
  have h:=UA ((w.alloc (.cells #[.slice A0 m c0,.slice A1 l1.length c1,.slice A2 l2.length c2,.int .i64 a3,.int .i64 a4] 111)).alloc (.cells (ar6 n).toArray 115)) (.cells (ar6 []).toArray 115)
  rw [World.size_alloc,World.size_alloc] at h
  exact h
 have BR:=Q0.mk BR0
 have I5:=Q0.mk I50
 have I9:=Q0.mk I90
 clear BR0 I50 I90
 go_loopg [2,11] m (fun j v2 v11 w' => ∃ (t i:Int) (n':List Int),v2 = .int .i64 t∧v11 = .int .i64 i∧Q0 (i=(j:Int)-1)∧Q0 (j≤m)∧Q0 (n'.length=6)∧Q0 (R=Kv a4 j n' t)∧Q0 (w'.heap[w.heap.size]? = some (.cells #[.slice A0 m c0,.slice A1 l1.length c1,.slice A2 l2.length c2,.int .i64 a3,.int .i64 a4] 111 (0,0)))∧Q0 (Is6 w' (w.heap.size+1) n')∧Q0 (Is6 w' (w.heap.size+1+1) [])∧Q0 (Below w.heap.size w w'))
 case atStart=>exact ⟨take,_,n,rfl,rfl,⟨rfl⟩,⟨Nat.le_refl _⟩,HN,HRR,BR,I5,I9,⟨Q4 (Q4 (Q4 HB.out _) _) _⟩⟩
 case round =>
  clear HRR BR I5 I9 HB HN
  obtain ⟨t,i,n',rfl,rfl,HI,HJ,HN,HRR,BR,I5,I9,HB⟩:=hrel
  have b0:wr.cell? ⟨w.heap.size,0,none⟩=some (.slice A0 m c0):=(Qb BR.out 0).trans rfl
  have b1:wr.cell? ⟨w.heap.size,1,none⟩=some (.slice A1 l1.length c1):=(Qb BR.out 1).trans rfl
  have b2:wr.cell? ⟨w.heap.size,2,none⟩=some (.slice A2 l2.length c2):=(Qb BR.out 2).trans rfl
  have b3:wr.cell? ⟨w.heap.size,3,none⟩=some (.int .i64 a3):=(Qb BR.out 3).trans rfl
  have b4:wr.cell? ⟨w.heap.size,4,none⟩=some (.int .i64 a4):=(Qb BR.out 4).trans rfl
  by_cases hc:a4≤i
  ·
   have h0:0≤i:=qk4 a4 i hc hm0
   have h6:i<6:=by have:=HI.out;have:=HJ.out;omega
   have hx:=I5.out.celli i h0 h6
   have hf:=I5.out.frz i.toNat
   obtain ⟨c,hce⟩:∃ c,(if t<rd n' i then t else rd n' i)=c:=⟨_,rfl⟩
   have HC:=Q0.mk (show mn (rd n' i) t=c from hce)
   go_wp2
   cases gk with
   | zero=>exact absurd h0 (by have:=HI.out;omega)
   | succ j =>
    have hij:i=(j:Int):=by have:=HI.out;omega
    subst hij
    go_roundg j
    case measure=>omega
    case rel=>exact ⟨_,_,_,rfl,rfl,⟨rfl⟩,⟨by have:=HJ.out;omega⟩,⟨by rw [List.length_set];exact HN.out⟩,⟨by rw [HRR.out,Kv,if_pos hc,HC.out];rfl⟩,⟨Qu BR.out (Nat.ne_of_lt (Nat.lt_succ_self _)) _⟩,⟨I5.out.seti HN.out _ h0 h6 _⟩,⟨I9.out.far (Nat.succ_ne_self _) _⟩,⟨Q5 HB.out (Nat.le_succ _)⟩⟩
  ·
   have HRn:=Q0.mk (show R.1=n' by
    rw [HRR.out]
    cases gk with
    | zero=>rfl
    | succ j=>rw [Kv,if_neg (by have:=HI.out;omega)])
   clear HRR HI HJ
   obtain ⟨W1,rfl⟩:∃ W1:World,W1=wr:=⟨_,rfl⟩
   have hlt:=I9.out.lt
   have I14:=Q0.mk (show Is6 (W1.alloc (.cells (ar6 []).toArray 115)) W1.heap.size [0,0,0,0,0,0] from UA W1 _)
   replace BR:=Q0.mk (Q2 BR.out (.cells (ar6 []).toArray 115))
   replace I5:=Q0.mk (I5.out.alloc (.cells (ar6 []).toArray 115))
   replace I9:=Q0.mk (I9.out.alloc (.cells (ar6 []).toArray 115))
   replace HB:=Q0.mk (Q4 HB.out (.cells (ar6 []).toArray 115))
   go_wp2
   clear b0 b1 b2 b3 b4
   go_loopg [13,46] m (fun d v13 v46 w' => ∃ (i:Int) (k:Nat) (sv:Value),v46 = .int .i64 i∧sv=v13∧Q0 (i=(k:Int))∧Q0 (k+d=m)∧Q0 (Kd.R (Kd.int .i64) 3 w' w.heap.size (fun _=>True) sv (Of n' l2 k))∧Q0 (Is6 w' W1.heap.size (Oe ((m:Int)-1) n' l1 k))∧Q0 (w'.heap[w.heap.size]? = some (.cells #[.slice A0 m c0,.slice A1 l1.length c1,.slice A2 l2.length c2,.int .i64 a3,.int .i64 a4] 111 (0,0)))∧Q0 (Is6 w' (w.heap.size+1) n')∧Q0 (Is6 w' (w.heap.size+1+1) [])∧Q0 (Below w.heap.size w w'))
   case atStart=>exact ⟨_,0,_,rfl,rfl,⟨rfl⟩,⟨Nat.zero_add _⟩,⟨Kd.R_nil _ _ _ _ _⟩,I14,BR,I5,I9,HB⟩
   case round =>
    clear I14 BR I5 I9 HB;obtain ⟨x,k,sv,rfl,rfl,HX,HD,HS,I14,BR,I5,I9,HB⟩:=hrel;have b0:wr.cell? ⟨w.heap.size,0,none⟩=some (.slice A0 m c0):=(Qb BR.out 0).trans rfl;have b1:wr.cell? ⟨w.heap.size,1,none⟩=some (.slice A1 l1.length c1):=(Qb BR.out 1).trans rfl;have b2:wr.cell? ⟨w.heap.size,2,none⟩=some (.slice A2 l2.length c2):=(Qb BR.out 2).trans rfl
    by_cases hk:x<(m:Int)
    ·
     have hx0:0≤x:=by have:=HX.out;omega
     have hx6:x<6:=by omega
     have h5:=I5.out.celli x hx0 hx6;obtain ⟨ad2,ea2,hw2⟩:=Kd.at_int HR2.out x hx0 (by have:=HE2.out;omega);subst ea2;have L2:=Q0.mk (World.block_lt_of_cell? w _ hw2);have hA2:=(HB.out.cell L2.out).trans hw2;have HW2:=Q0.mk hw2;clear hw2
     have hl2:x<(l2.length:Int):=by have:=HE2.out;omega
     obtain ⟨p,hp⟩:∃ p,p=wrap64 (rd n' x*rd l2 x):=⟨_,rfl⟩
     have hpw:IntKind.i64.wrap (rd n' x*rd l2 x)=p:=by rw [hp,Qj]
     have HP:=Q0.mk hp;clear hp
     go_wp2
     have hne5:=Kd.R_ne (Kd.R_drew HS.out) (Q6 I5.out) (by decide);have hneR:=Kd.R_ne (Kd.R_drew HS.out) (Q6 BR.out) (by decide)
     go_region_held3 (fun w'=>w'.cell? ⟨w.heap.size+1,x.toNat,none⟩=some (.int .i64 (rd n' x))∧w'.cell? ⟨w.heap.size,2,none⟩=some (.slice (some ad2) l2.length c2)∧w'.cell? (ad2.add x.toNat)=some (.int .i64 (rd l2 x)))
      (first|go_keep|exact ⟨(Is6.celli (Jv (Q6 I5.out) hg1 hne5) x hx0 hx6),((Qb (Jv (Q6 BR.out) hg1 hneR) 2).trans rfl),((HB1.cell L2.out).trans HW2.out)⟩)
      ((refine Kd.R_append_step (Kd.int .i64) (w0:=w) (W:=wr.drew) w.heap.size ?hw (.tmp 49) (.tmp 60) 37 3 (.int .i64 0) 8 ?ho Try.underlying37 qaj rfl ?n1 ?n2 sv (Of n' l2 k) p [.int .i64 p] (fun _=>True) (fun _=>False) ?e1 ?e2 rfl (fun _ h=>h.elim) (fun _ _=>trivial) (Kd.R_drew HS.out) (YA HB.out) ?c1 ?c2 ?_;(case hw=>rfl);(case ho=>rfl);(case n1=>decide);(case n2=>decide);(case e1=>rfl);(case e2=>rfl);(case c1=>exact Qq (YA HB.out));(case c2=>have:=HD.out;simp [Of];omega);intro v1 w1 HS1 HB1 hg1 qh1))
     have J5:=Q0.mk (show Is6 w1 (w.heap.size+1) n' from Jv (Q6 I5.out) hg1 (Kd.R_ne (Kd.R_drew HS.out) (Q6 I5.out) (by decide)));have J9:=Q0.mk (show Is6 w1 (w.heap.size+1+1) [] from Jv (Q6 I9.out) hg1 (Kd.R_ne (Kd.R_drew HS.out) (Q6 I9.out) (by decide)));have J14:=Q0.mk (show Is6 w1 W1.heap.size _ from Jv (Q6 I14.out) hg1 (Kd.R_ne (Kd.R_drew HS.out) (Q6 I14.out) (by decide)));have JR:=Q0.mk (Jv (Q6 BR.out) hg1 (Kd.R_ne (Kd.R_drew HS.out) (Q6 BR.out) (by decide)));have JS:=Q0.mk HS1;have JB:=Q0.mk HB1;clear I5 I9 I14 BR HS HB HS1 HB1 hg1 qh1 b0 b1 b2 h5 hA2 hl2 hpw;obtain ⟨y,hy⟩:∃ y,y=Oe ((m:Int)-1) n' l1 k:=⟨_,rfl⟩;have HY:=Q0.mk hy;rw [← hy] at J14;clear hy;have d1:w1.cell? ⟨w.heap.size,1,none⟩=some (.slice A1 l1.length c1):=(Qb JR.out 1).trans rfl;have h5:=J5.out.celli x hx0 hx6;obtain ⟨ad1,ea1,hw1⟩:=Kd.at_int HR1.out x hx0 (by have:=HE1.out;omega);subst ea1;have L1:=Q0.mk (World.block_lt_of_cell? w _ hw1);have hA1:=(JB.out.cell L1.out).trans hw1;have HW1:=Q0.mk hw1;clear hw1
     have hl1:x<(l1.length:Int):=by have:=HE1.out;omega
     obtain ⟨jx,hjx⟩:∃ jx,(if (m:Int)-1<x+1 then (m:Int)-1 else x+1)=jx:=⟨_,rfl⟩;have HJX:=Q0.mk (show mn (x+1) ((m:Int)-1)=jx from hjx)
     have hj0:0≤jx:=by rw [← hjx];split<;>omega
     have hj6:jx<6:=by rw [← hjx];split<;>omega
     have h14:=J14.out.celli jx hj0 hj6;have f14:=J14.out.frz jx.toNat
     have hwx:IntKind.i64.wrap (x+1)=x+1:=by rw [Qj];unfold wrap64;omega
     obtain ⟨q1,hq1⟩:∃ q1,IntKind.i64.wrap (rd n' x*rd l1 x)=q1:=⟨_,rfl⟩;obtain ⟨q2,hq2⟩:∃ q2,IntKind.i64.wrap (Int.tdiv q1 1000)=q2:=⟨_,rfl⟩;obtain ⟨q3,hq3⟩:∃ q3,IntKind.i64.wrap (rd y jx+q2)=q3:=⟨_,rfl⟩;have HQ:=Q0.mk (show q3=wrap64 (rd y jx+wrap64 (Int.tdiv (wrap64 (rd n' x*rd l1 x)) 1000)) by rw [← hq3,← hq2,← hq1,Qj,Qj,Qj])
     go_wp2
     go_still_tail 19,(by kernel_rfl)
     change wpList _ _ _ _ _ w1.drew
     go_wp2
     cases gk with
     | zero=>exact absurd hk (by have:=HX.out;have:=HD.out;omega)
     | succ d =>
      have hxk:x=(k:Int):=HX.out
      go_roundg d
      case measure=>omega
      case rel =>
       have hgt:w.heap.size<W1.heap.size:=by omega
       refine ⟨_,k+1,_,rfl,rfl,⟨by rw [hxk];rfl⟩,⟨by have:=HD.out;omega⟩,⟨?_⟩,⟨?_⟩,⟨Qu (Q6 JR.out) (Nat.ne_of_lt hgt) _⟩,⟨J5.out.drew.far (Nat.ne_of_lt (by show w.heap.size+1<W1.heap.size;omega)) _⟩,⟨J9.out.drew.far (Nat.ne_of_lt hlt) _⟩,⟨Q5 (YA JB.out) (Nat.le_of_lt hgt)⟩⟩
       ·
        have e:Of n' l2 (k+1)=Of n' l2 k++[p]:=by
         rw [HP.out,hxk];simp [Of,List.range_succ]
        rw [e]
        exact qlQ (Kd.R_drew JS.out) J14.out.drew _ _
       ·
        have e:Oe ((m:Int)-1) n' l1 (k+1)=y.set jx.toNat q3:=by
         rw [Oe,← HY.out,← hxk,HJX.out,HQ.out]
        rw [e]
        exact J14.out.drew.seti (by rw [HY.out];exact O0 _ _ _ k) jx hj0 hj6 q3
    ·
     have hkm:k=m:=by have:=HX.out;have:=HD.out;omega
     subst hkm;obtain ⟨y,hy⟩:∃ y,y=Oe ((k:Int)-1) n' l1 k:=⟨_,rfl⟩;have HY:=Q0.mk hy;rw [← hy] at I14;clear hy;obtain ⟨i0,i1,i2,i3,i4,i5⟩:=I14.out.cells;have f0:=I14.out.frz 0;obtain ⟨z,hz⟩:∃ z,wrap64 (rd y 0+rec_)=z:=⟨_,rfl⟩;obtain ⟨As,cs,hsv⟩:=Kd.R_slice HS.out;subst hsv;have hcs:=(Kd.R_reads' HS.out).2.1;have HSL:=Q0.mk (show (Of n' l2 k).length=k by simp [Of])
     have hgt:w.heap.size<W1.heap.size:=by omega
     have Y14:=Q0.mk (show Is6 (wr.setCell ⟨W1.heap.size,0,none⟩ (.int .i64 z)) W1.heap.size (y.set 0 z) from I14.out.set (by rw [HY.out];exact O0 _ _ _ k) 0 (by omega) z);have YS:=Q0.mk (qlQ HS.out I14.out 0 (.int .i64 z));have Y9:=Q0.mk (I9.out.far (p:=⟨W1.heap.size,0,none⟩) (Nat.ne_of_lt hlt) (.int .i64 z));have YB:=Q0.mk (Q5 (j:=0) (v:=.int .i64 z) HB.out (Nat.le_of_lt hgt))
     go_wp2
     generalize wr.setCell ⟨W1.heap.size,0,none⟩ (.int .i64 z)=w2 at Y14 YS Y9 YB ⊢
     clear i0 i1 i2 i3 i4 i5 f0 b0 b1 b2;obtain ⟨i0,i1,i2,i3,i4,i5⟩:=Y14.out.cells;obtain ⟨z0,z1,z2,z3,z4,z5⟩:=Y9.out.cells;obtain ⟨f0,f1,f2,f3,f4,f5⟩:=Y9.out.frozen
     go_region_with (go_at_call 97;refine (Ye.calls ((Of n' l2 k).length+1) As cs (Of n' l2 k) (sumW (Of n' l2 k)) _ ?hr hcs ?hs).mono ?_;(case hr=>exact Kd.C_below (Kd.R_reads' YS.out).2.2 (by repeat (first|exact Below.refl _ _|apply YA|apply Q1)));(case hs=>exact qo5 _ (by rw [HSL.out];omega));rintro e w' ⟨rfl,⟨nq,rfl⟩⟩)
     all_goals
      go_wp2
      refine bodyPost_ret (qiN rfl _ _ (w.heap.size+1+1) 115 (ar6 (y.set 0 z)).toArray (0,0) _ rfl (Is6.put6 (Y9.out.drewN _) (y.set 0 z)) Try.underlying115 rfl (by kernel_rfl)) rfl ?_;refine ⟨?_,?_⟩
      ·
       show Ending.returned (.tuple #[.int .i64 (sumW (Of n' l2 k)),.agg (ar6 (y.set 0 z)).toArray])=_
       rw [HRn.out,← HY.out,hz]
      ·
       have h1:w.heap.size≤w.heap.size+1+1:=by omega
       exact Q5 (Q5 (Q5 (Q5 (Q5 (Q5 (Q1 YB.out _) h1) h1) h1) h1) h1) h1
def Gd (m:Nat) (mesh:Int) (keep spawn n:List Int) (take rec_:Int):Int × List Int :=
 (sumW (Of (Kv mesh m n take).1 spawn m),(Oe ((m:Int)-1) (Kv mesh m n take).1 keep m).set 0 (wrap64 (rd (Oe ((m:Int)-1) (Kv mesh m n take).1 keep m) 0+rec_)))
theorem qeH (m:Nat) (mesh:Int) (keep spawn n:List Int) (take rec_:Int):(Gd m mesh keep spawn n take rec_).2.length=6:=by
 rw [Gd,List.length_set,O0]
def okR (l0 l1 l2:List Int) (a4:Int):Prop:=1≤l0.length∧l0.length≤6∧l1.length=l0.length∧l2.length=l0.length∧0≤a4∧a4<(l0.length:Int)
instance (l0 l1 l2:List Int) (a4:Int):Decidable (okR l0 l1 l2 a4):=by unfold okR;infer_instance
def Zl.f (Qi Qn Ql:List Int) (QD QA qdB qdC qdD qdE qdF qdG a2 a3:Int):Option (Int × Int × Int × Int × Int × Int × Int) :=
 if okR Qi Qn Ql QA then
  some ((Gd Qi.length QA Qn Ql [qdB,qdC,qdD,qdE,qdF,qdG] a2 a3).1,
   rd (Gd Qi.length QA Qn Ql [qdB,qdC,qdD,qdE,qdF,qdG] a2 a3).2 0,rd (Gd Qi.length QA Qn Ql [qdB,qdC,qdD,qdE,qdF,qdG] a2 a3).2 1,
   rd (Gd Qi.length QA Qn Ql [qdB,qdC,qdD,qdE,qdF,qdG] a2 a3).2 2,rd (Gd Qi.length QA Qn Ql [qdB,qdC,qdD,qdE,qdF,qdG] a2 a3).2 3,
   rd (Gd Qi.length QA Qn Ql [qdB,qdC,qdD,qdE,qdF,qdG] a2 a3).2 4,rd (Gd Qi.length QA Qn Ql [qdB,qdC,qdD,qdE,qdF,qdG] a2 a3).2 5)
 else none
theorem Zl.calls (QT:Option Addr) (QF:Nat) (Qi:List Int) (QR:Option Addr) (QH:Nat) (Qn:List Int) (QV:Option Addr) (QI:Nat) (Ql:List Int) (QD QA qdB qdC qdD qdE qdF qdG a2 a3 r1 r2 r3 r4 r5 r6 r7:Int) (w:World)
  (Gf:Kd.C (Kd.int .i64) w QT Qi.length Qi) (Gl:Qi.length≤QF) (Gg:Kd.C (Kd.int .i64) w QR Qn.length Qn) (Gm:Qn.length≤QH) (Gh:Kd.C (Kd.int .i64) w QV Ql.length Ql) (Gn:Ql.length≤QI)
  (h:Zl.f Qi Qn Ql QD QA qdB qdC qdD qdE qdF qdG a2 a3=some (r1,r2,r3,r4,r5,r6,r7)) :
  Calls Try.prog 77 #[.agg #[.slice QT Qi.length QF,.slice QR Qn.length QH,.slice QV Ql.length QI,.int .i64 QD,.int .i64 QA],.agg #[.int .i64 qdB,.int .i64 qdC,.int .i64 qdD,.int .i64 qdE,.int .i64 qdF,.int .i64 qdG],.int .i64 a2,.int .i64 a3] w fun e w' =>
   e = .returned (.tuple #[.int .i64 r1,.agg #[.int .i64 r2,.int .i64 r3,.int .i64 r4,.int .i64 r5,.int .i64 r6,.int .i64 r7]])∧Below w.heap.size w w':=by
 unfold Zl.f at h
 by_cases hv:okR Qi Qn Ql QA
 ·
  rw [if_pos hv] at h
  obtain ⟨h1,h2,h3,h4,h5,h6⟩:=hv
  injection h with h
  simp only [Prod.mk.injEq] at h
  obtain ⟨rfl,rfl,rfl,rfl,rfl,rfl,rfl⟩:=h
  exact Zl.calls6 QT QF Qi.length QR QH Qn QV QI Ql QD QA [qdB,qdC,qdD,qdE,qdF,qdG] a2 a3 w rfl h1 h2 h3 h4 h5 h6 Gg Gh
 · rw [if_neg hv] at h;exact absurd h (by simp)
end
end Go.Proofs.Ytmhomdohhihlcaa.P
