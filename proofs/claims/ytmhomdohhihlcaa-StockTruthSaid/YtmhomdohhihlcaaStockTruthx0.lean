/- What the statement StockTruth leans on, part 1 of 6: contracts of the program's functions; conditions: none. -/
import Derived.Below
import Derived.Deep.Draws
import Derived.Deep.AppendLies
import Derived.Maps.AppendAt
import Derived.OwnWalk
import Derived.Laws.BytesArg
import Derived.Laws.MakeOwn
import Derived.Laws.OwnMore
import Derived.Deep.OwnRows
import Derived.Tactics
import Derived.Lib.ConvBytes
import Derived.Laws.Slices
import Derived.WalkKit
import Derived.KernelRfl
import Derived.RowKit3
import Derived.Deep.LoopGhost
import Derived.Deep.QuietTactic
import Derived.BigQuiet
import Derived.WideLaws
import Derived.Deep.DeepCutAuto
import Derived.Deep.CutBlock
import Derived.Deep.RegionHeld3
import Derived.Laws.Rows
import Derived.Lib.AppendStr
import Derived.ArgAppend
import Derived.Laws.IdiomCopy
import Derived.RowKit
import Derived.OrdersHeld
import Derived.Laws.BitsLemmas
import Derived.Laws.StructEq
import Derived.Test.YtmhomdohhihlcaaProg
import Derived.Laws.CopyOwn
import Derived.Maps.OwnSet
import Derived.DeepKeys4
import Derived.RangeFuncRecord
import Derived.RangeFuncNested
import Derived.RangeFuncBound
import Derived.RangeFuncCalls
import Derived.RangeFuncLeaves
import Derived.Shelf.Abstract
import Derived.Shelf.RegionOpen
import Derived.OwnWalkIn
import Derived.TacticsInMore
import Derived.LoopNIn
import Derived.LoopIn
import Derived.Sort.LoopGhostIn
import Derived.Sort.CutIn
set_option linter.unusedVariables false
set_option linter.unusedSimpArgs false
set_option linter.constructorNameAsVariable false
set_option linter.unusedSectionVars false
namespace Go.Proofs.YtmhomdohhihlcaaW.PrintWords
open Go.RowKit
structure qaa (p : Prop) : Prop where mk :: (out : p)
structure qbF (w w' : World) : Prop where mk :: (out : ∃ n, w' = w.drewN n)
theorem qbF.refl (w : World) : qbF w w := ⟨⟨0, rfl⟩⟩
theorem qbF.step {w w' : World} (h : qbF w w') (n : Nat) : qbF w (w'.drewN n) := by
 obtain ⟨m, rfl⟩ := h
 exact ⟨⟨m + n, World.drewN_drewN ..⟩⟩
def rd (xs : List Int) (i : Int) : Int := xs.getD i.toNat 0
theorem qag {w W : World} (h : Below w.heap.size w W) (o : Obj) : Below w.heap.size w (W.alloc o) := h.alloc h.size o
theorem qbC {B : Nat} {w W : World} (h : Below B w W) : Below B w W.drew := ⟨h.os, h.tape, h.output, h.size, h.block⟩
theorem qad {B : Nat} {w W : World} (h : Below B w W) (n : Nat) : Below B w (W.drewN n) := ⟨h.os, h.tape, h.output, h.size, h.block⟩
theorem qpv {B : Nat} {w w1 w2 : World} (h : Below B w w1) (hB : B ≤ w1.heap.size) (k : Below w1.heap.size w1 w2) : Below B w w2 :=
 h.trans ⟨k.os, k.tape, k.output, k.size, fun i hi => k.block i (Nat.lt_of_lt_of_le hi hB)⟩
theorem qmz {w w1 : World} (h : Below w.heap.size w w1) (row : Option Nat) : w.grownBy w1 row := ⟨h.os, h.tape, h.output, h.size, fun i hi _ => h.block i hi⟩
theorem qnl {w w1 : World} (h : Below w.heap.size w w1) {a : Addr} {v : Value} (hc : w.cell? a = some v) : w1.cell? a = some v := (h.cell (World.block_lt_of_cell? w a hc)).trans hc
theorem qid (g j : Nat) : (⟨g, 0, none⟩ : Addr).add j = ⟨g, j, none⟩ := by unfold Addr.add; split <;> simp_all
def qvf (w : World) (k : IntKind) (A : Option Addr) (n : Nat) (xs : List Int) : Prop :=
 xs.length = n ∧ n ≤ 9223372036854775807 ∧ (0 < n → ∃ ad, A = some ad ∧ ∀ j, j < n → w.cell? (ad.add j) = some (.int k (xs.getD j 0)))
theorem qtk (W : World) (base : Nat) (e : TypeId) (size : Nat) : W.ownsRow base e size (.slice none 0 0) 0 [] := ⟨by simp, .inl ⟨rfl, rfl⟩⟩
theorem qj6 {w : World} {base : Nat} {e : TypeId} {size n : Nat} {v : Value} {xs : List Value} (h : w.ownsRow base e size v n xs) (k : Nat) (hk : v.ownBlock = some k) : base ≤ k := by
 rcases h.2 with ⟨rfl, _⟩ | ⟨g, cap, cur, rfl, hb, _⟩
 ·
  simp [Value.ownBlock] at hk
 have : g = k := by simpa [Value.ownBlock] using hk
 omega
theorem qqg {w : World} {base : Nat} {e : TypeId} {size n : Nat} {v : Value} {xs : List Value} (h : w.ownsRow base e size v n xs) (k : Nat) (hk : v.ownBlock = some k) : k < w.heap.size := by
 rcases h.2 with ⟨rfl, _⟩ | ⟨g, cap, cur, rfl, hb, hh, _⟩
 ·
  simp [Value.ownBlock] at hk
 have : g = k := by simpa [Value.ownBlock] using hk
 subst this
 exact (Array.getElem?_eq_some_iff.1 hh).1
theorem qtX {w w1 : World} {base : Nat} {e : TypeId} {size n : Nat} {v : Value} {xs : List Value} (h : w.ownsRow base e size v n xs) (hb : Below w.heap.size w w1) : w1.ownsRow base e size v n xs :=
 h.kept (qmz hb none) (by cases v.ownBlock <;> simp)
theorem qqh {w : World} {base n : Nat} {e : TypeId} {size : Nat} {v : Value} {xs : List Value} (h : w.ownsRow base e size v n xs) : ∃ A c, v = .slice A n c := by
 rcases h.2 with ⟨rfl, rfl⟩ | ⟨g, cap, cur, rfl, _⟩
 ·
  exact ⟨none, 0, rfl⟩
 exact ⟨_, cap, rfl⟩
def bytesOf (s : ByteArray) : List Int := s.data.toList.map fun b => (b.toNat : Int)
def LeO {α : Type} (a b : Option α) : Prop := ∀ r, a = some r → b = some r
theorem LeO.refl {α : Type} (a : Option α) : LeO a a := fun _ h => h
theorem LeO.none {α : Type} (b : Option α) : LeO Option.none b := fun _ h => by cases h
theorem LeO.ite {α : Type} {c : Prop} [Decidable c] {a a' b b' : Option α} (h : LeO a a') (k : LeO b b') : LeO (if c then a else b) (if c then a' else b') := by
 split
 ·
  exact h
 exact k
theorem LeO.bind {α β : Type} {a a' : Option α} {f f' : α → Option β} (h : LeO a a') (k : ∀ x, LeO (f x) (f' x)) : LeO (a.bind f) (a'.bind f') := by
 intro r hr
 obtain ⟨x, hx, hf⟩ := Option.bind_eq_some_iff.1 hr
 exact Option.bind_eq_some_iff.2 ⟨x, h x hx, k x r hf⟩
theorem LeO.map {α β : Type} {a a' : Option α} (f : α → β) (h : LeO a a') : LeO (a.map f) (a'.map f) := by
 intro r hr
 obtain ⟨x, hx, hf⟩ := Option.map_eq_some_iff.1 hr
 exact Option.map_eq_some_iff.2 ⟨x, h x hx, hf⟩
def Reps {α : Type} (R : α → List Value → Prop) (size : Nat) (ps : List α) (cs : List Value) : Prop :=
 cs.length = ps.length * size ∧ ∀ j p, ps[j]? = some p → R p ((cs.drop (j * size)).take size)
theorem Reps.none {α : Type} (R : α → List Value → Prop) (size : Nat) : Reps R size [] [] := ⟨by simp, fun j p h => by simp at h⟩
theorem Reps.snoc {α : Type} {R : α → List Value → Prop} {size : Nat} {ps : List α} {cs c : List Value} {p : α} (h : Reps R size ps cs) (hp : R p c) (hc : c.length = size) : Reps R size (ps ++ [p]) (cs ++ c) := by
 refine ⟨by rw [List.length_append, h.1, hc, List.length_append, List.length_singleton, Nat.add_mul, Nat.one_mul], fun j q hq => ?_⟩
 rcases Nat.lt_or_ge j ps.length with hj | hj
 ·
  rw [List.getElem?_append_left hj] at hq
  have h1 : j * size + size ≤ cs.length := by rw [h.1, ← Nat.succ_mul]; exact Nat.mul_le_mul_right _ hj
  have h2 := h.2 j q hq
  rw [List.drop_append_of_le_length (by omega), List.take_append_of_le_length (by rw [List.length_drop]; omega)]
  exact h2
 have hj' : j = ps.length := by
  have := (List.getElem?_eq_some_iff.1 hq).1
  rw [List.length_append, List.length_singleton] at this
  omega
 subst hj'
 have hq' : p = q := by simpa using hq
 subst hq'
 rw [← h.1, List.drop_left, ← hc, List.take_length]
 exact hp
theorem Reps.imp_ {α : Type} {R R' : α → List Value → Prop} {size : Nat} {ps : List α} {cs : List Value} (h : Reps R size ps cs) (hR : ∀ p c, R p c → R' p c) : Reps R' size ps cs := ⟨h.1, fun j p hj => hR _ _ (h.2 j p hj)⟩
def qfA {α : Type} (R : α → List Value → Prop) (size : Nat) (w : World) (A : Option Addr) (n : Nat) (ps : List α) : Prop :=
 ps.length = n ∧ n ≤ 9223372036854775807 ∧ (0 < n → ∃ ad, A = some ad ∧ ∀ j p, ps[j]? = some p → ∃ c, c.length = size ∧ R p c ∧ ∀ i u, c[i]? = some u → w.cell? (ad.add (j * size + i)) = some u)
theorem qfA.get_ {α : Type} {R : α → List Value → Prop} {size : Nat} {w : World} {A : Option Addr} {n : Nat} {ps : List α} (h : qfA R size w A n ps) (d : α) (i : Int) (h0 : 0 ≤ i) (h1 : i < n) :
  ∃ ad c, A = some ad ∧ c.length = size ∧ R (ps.getD i.toNat d) c ∧ ∀ j u, c[j]? = some u → w.cell? (ad.add (i.toNat * size + j)) = some u := by
 obtain ⟨ad, e, hc⟩ := h.2.2 (by omega)
 have hl : i.toNat < ps.length := by have := h.1; omega
 obtain ⟨c, hs, hr, hcell⟩ := hc i.toNat _ (List.getElem?_eq_getElem hl)
 refine ⟨ad, c, e, hs, ?_, hcell⟩
 rw [List.getD_eq_getElem?_getD, List.getElem?_eq_getElem hl]
 exact hr
theorem qfA.imp_ {α : Type} {R R' : α → List Value → Prop} {size : Nat} {w w1 : World} {A : Option Addr} {n : Nat} {ps : List α} (h : qfA R size w A n ps) (hb : Below w.heap.size w w1) (hR : ∀ p c, R p c → R' p c) : qfA R' size w1 A n ps :=
 ⟨h.1, h.2.1, fun hn => by
  obtain ⟨ad, e, hc⟩ := h.2.2 hn
  refine ⟨ad, e, fun j p hj => ?_⟩
  obtain ⟨c, hs, hr, hcell⟩ := hc j p hj
  exact ⟨c, hs, hR _ _ hr, fun i u hu => qnl hb (hcell i u hu)⟩⟩
theorem qnk {α : Type} {R : α → List Value → Prop} {w : World} {base n size : Nat} {e : TypeId} {v : Value} {ps : List α} {cs : List Value} (h : w.ownsRow base e size v n cs) (hR : Reps R size ps cs) (hn : ps.length = n) :
  ∃ A c, v = .slice A n c ∧ qfA R size w A n ps := by
 rcases Nat.eq_zero_or_pos n with h0 | h0
 ·
  rcases h.2 with ⟨rfl, rfl⟩ | ⟨g, cap, cur, rfl, _⟩
  ·
   exact ⟨none, 0, rfl, hn, by omega, fun hp => absurd hp (by omega)⟩
  exact ⟨_, cap, rfl, hn, by omega, fun hp => absurd hp (by omega)⟩
 obtain ⟨g, cap, rfl, _, _⟩ := h.form h0
 have hm : n ≤ 9223372036854775807 := by
  rcases h.2 with ⟨_, h1⟩ | ⟨g', cap', cur, he, _, _, h1, h2, _⟩
  ·
   omega
  simp only [maxLen] at h2
  omega
 refine ⟨_, cap, rfl, hn, hm, fun _ => ⟨_, rfl, fun j p hj => ⟨(cs.drop (j * size)).take size, ?_, hR.2 j p hj, fun i u hu => ?_⟩⟩⟩
 ·
  have hjl := (List.getElem?_eq_some_iff.1 hj).1
  have h1 : j * size + size ≤ cs.length := by rw [hR.1, ← Nat.succ_mul]; exact Nat.mul_le_mul_right _ hjl
  rw [List.length_take, List.length_drop]
  omega
 refine h.cells (g := g) rfl _ u ?_
 rw [List.getElem?_take] at hu
 split at hu
 ·
  rw [List.getElem?_drop] at hu
  exact hu
 cases hu
theorem qfO (ad : Addr) (m j : Nat) (hj : 0 < j) : ad.add (m + j) = ⟨(ad.add m).block, (ad.add m).off + j, none⟩ := by
 unfold Addr.add
 by_cases hm : m = 0
 ·
  subst hm
  simp [Nat.ne_of_gt hj]
 simp [hm, Nat.add_assoc]
section
variable {P : Program} {ops : Array Oper} {rest : List Oper} {o : Oper} {a : Act} {Q : Exit → Act → World → Prop}
theorem qkn {w0 W : World} (base : Nat) (hgd : o.guard = none) (s x : Operand) (t e : TypeId) (z : Value) (size bytes : Nat)
  (ho : o.op = .call { callee := .builtin .append, args := #[s, x], argTypes := #[t, t] })
  (ht : P.underlying t = some (.slice e)) (hinfo : (P.info? e).map (fun i => (i.zero, i.size, i.bytes)) = some (some z, size, bytes)) (hz : z.cells.size = size) (hs0 : 0 < size) (hb0 : 0 < bytes)
  (v : Value) (n : Nat) (xs ys : List Value) (hs : a.eval s = v) (hx : a.eval x = .slice (some ⟨W.heap.size, 0, none⟩) 1 1) (hys : ys.length = size) (h1 : ∀ u ∈ ys, u.oneCell' = true)
  (HO : W.ownsRow base e size v n xs) (HB : Below base w0 W) (hbase : base ≤ W.heap.size) (hl : (n + 1) * bytes ≤ 140737488355328)
  (h : ∀ v1 w1, w1.ownsRow base e size v1 (n + 1) (xs ++ ys) → Below base w0 w1 → W.grownBy w1 v.ownBlock → (v1.ownBlock = v.ownBlock ∨ ∃ b, v1.ownBlock = some b ∧ W.heap.size ≤ b) → wpList P ops Q rest (a.put o.dst v1) w1) :
  wpList P ops Q (o :: rest) a (W.alloc (.cells ys.toArray e)) := by
 obtain ⟨i0, hi, hzz⟩ := Option.map_eq_some_iff.1 hinfo
 simp only [Prod.mk.injEq] at hzz
 obtain ⟨hz0, hz1, hz2⟩ := hzz
 have hlen : n + 1 ≤ 140737488355328 := Nat.le_trans (Nat.le_mul_of_pos_right _ hb0) hl
 refine wpList_append_own_at (W.alloc (.cells ys.toArray e)) hgd s x t ho base e i0 z size bytes ht hi hz0 hz1 hz2 hz hs0 v n xs hs (HO.alloc _) ⟨W.heap.size, 0, none⟩ 1 1 ys hx (by rw [hys]; simp)
  (by simpa using World.news_of_block (cs := ys.toArray) (t := e) (fr := (0, 0)) (heap_alloc_new W (.cells ys.toArray e))) h1 (by simp only [maxLen]; omega) hl (by simp; omega) ?_
 intro v1 w1 hown hg _ hat
 refine h v1 w1 hown ((HB.alloc hbase _).grown hg (by simp; omega) (qj6 HO)) (World.grownBy.trans (World.grownBy_alloc W _ _) hg) ?_
 rcases hat with hat | hat
 ·
  exact .inl hat
 exact .inr ⟨_, hat, by simp⟩
end
theorem qtW {w : World} {base : Nat} {e t : TypeId} {size n g : Nat} {v : Value} {xs : List Value} {cs : Array Value} (h : w.ownsRow base e size v n xs) (hg : w.heap[g]? = some (.cells cs t (0, 0))) (hne : e ≠ t) : some g ≠ v.ownBlock := by
 rcases h.2 with ⟨rfl, _⟩ | ⟨g', cap, cur, rfl, _, hh, _⟩
 ·
  simp [Value.ownBlock]
 intro he
 have : g = g' := by simpa [Value.ownBlock] using he
 subst this
 rw [hg] at hh
 injection hh with hh
 injection hh with _ ht
 exact hne ht.symm
theorem qoE {w : World} {g : Nat} {t : TypeId} {cs : Array Value} (h : w.heap[g]? = some (.cells cs t (0, 0))) (i : Nat) (u : Value) : (w.setCell ⟨g, i, none⟩ u).heap[g]? = some (.cells (cs.setIfInBounds i u) t (0, 0)) := by
 simp [World.setCell, Array.getElem?_modify, h]
theorem qau {w : World} {g : Nat} {t : TypeId} {cs : Array Value} (h : w.heap[g]? = some (.cells cs t (0, 0))) {p : Addr} (hp : g ≠ p.block) (u : Value) : (w.setCell p u).heap[g]? = some (.cells cs t (0, 0)) := (Below.heap_setCell w p u g hp).trans h
theorem qaN {w : World} {g : Nat} {o : Obj} (h : w.heap[g]? = some o) : g < w.heap.size := (Array.getElem?_eq_some_iff.1 h).1
theorem qai {w : World} {g : Nat} {t : TypeId} {cs : Array Value} (h : w.heap[g]? = some (.cells cs t (0, 0))) (i : Nat) : w.cell? ⟨g, i, none⟩ = cs[i]? := cell_of_row w g i cs t (0, 0) h
theorem qaj {w : World} {g : Nat} {t : TypeId} {cs : Array Value} (h : w.heap[g]? = some (.cells cs t (0, 0))) (i : Nat) : w.frozen? ⟨g, i, none⟩ = false := by simp [World.frozen?, h]
theorem qej {w w1 : World} {g : Nat} {o : Obj} {row : Option Nat} (h : w.heap[g]? = some o) (hg : w.grownBy w1 row) (hne : some g ≠ row) : w1.heap[g]? = some o := (hg.block g (qaN h) hne).trans h
def qrM (w w' : World) (g : Nat) (row : Option Nat) : Prop := w.heap.size ≤ w'.heap.size ∧ ∀ i, i < w.heap.size → i ≠ g → some i ≠ row → w'.heap[i]? = w.heap[i]?
def Ev {α : Type} (g : Nat → Option α) (r : α) : Prop := ∃ K, ∀ k, K ≤ k → g k = some r
theorem Ev.now {α : Type} (r : α) : Ev (fun _ => some r) r := ⟨0, fun _ _ => rfl⟩
theorem Ev.rounds {α : Type} {g : Nat → Option α} {r : α} (h : Ev g r) : ∃ k, g k = some r := by
 obtain ⟨K, h⟩ := h
 exact ⟨K, h K (Nat.le_refl _)⟩
theorem Ev.bind {α β : Type} {g : Nat → Option α} {f : Nat → α → Option β} {a : α} {r : β} (h : Ev g a) (k : Ev (fun n => f n a) r) : Ev (fun n => (g n).bind (f n)) r := by
 obtain ⟨K, h⟩ := h
 obtain ⟨K', k⟩ := k
 refine ⟨max K K', fun n hn => ?_⟩
 have h1 := h n (by omega)
 have h2 := k n (by omega)
 simp only [h1, Option.bind_some]
 exact h2
theorem Ev.step {α : Type} {g f : Nat → Option α} {r : α} (h : ∀ k, g (k + 1) = f k) (k : Ev f r) : Ev g r := by
 obtain ⟨K, k⟩ := k
 refine ⟨K + 1, fun n hn => ?_⟩
 obtain ⟨m, rfl⟩ : ∃ m, n = m + 1 := ⟨n - 1, by omega⟩
 rw [h]
 exact k m (by omega)
theorem Ev.congr {α : Type} {g f : Nat → Option α} {r : α} (h : ∀ k, g k = f k) (k : Ev f r) : Ev g r := by
 obtain ⟨K, k⟩ := k
 exact ⟨K, fun n hn => (h n).trans (k n hn)⟩
section
variable {P : Program} {ops : Array Oper} {o : Oper} {a : Act} {Q : Exit → Act → World → Prop} {K : Act → World → Prop}
theorem qlg {w0 W : World} (base : Nat) (hw : Region.wanted o (yielded ops a.tmps) = true) (s x : Operand) (t e : TypeId) (z : Value) (size bytes : Nat)
  (ho : o.op = .call { callee := .builtin .append, args := #[s, x], argTypes := #[t, t] })
  (ht : P.underlying t = some (.slice e)) (hinfo : (P.info? e).map (fun i => (i.zero, i.size, i.bytes)) = some (some z, size, bytes)) (hz : z.cells.size = size) (hs0 : 0 < size) (hb0 : 0 < bytes)
  (v : Value) (n : Nat) (xs ys : List Value) (hs : a.eval s = v) (hx : a.eval x = .slice (some ⟨W.heap.size, 0, none⟩) 1 1) (hys : ys.length = size) (h1 : ∀ u ∈ ys, u.oneCell' = true)
  (HO : W.ownsRow base e size v n xs) (HB : Below base w0 W) (hbase : base ≤ W.heap.size) (hl : (n + 1) * bytes ≤ 140737488355328)
  (h : ∀ v1 w1, w1.ownsRow base e size v1 (n + 1) (xs ++ ys) → Below base w0 w1 → W.grownBy w1 v.ownBlock → (v1.ownBlock = v.ownBlock ∨ ∃ b, v1.ownBlock = some b ∧ W.heap.size ≤ b) → K (a.put o.dst v1) w1) :
  if Region.wanted o (yielded ops a.tmps) = true then Oper.wp P o a (W.alloc (.cells ys.toArray e)) K Q else K (a.put o.dst undef) (W.alloc (.cells ys.toArray e)) := by
 obtain ⟨i0, hi, hzz⟩ := Option.map_eq_some_iff.1 hinfo
 simp only [Prod.mk.injEq] at hzz
 obtain ⟨hz0, hz1, hz2⟩ := hzz
 have hlen : n + 1 ≤ 140737488355328 := Nat.le_trans (Nat.le_mul_of_pos_right _ hb0) hl
 rw [if_pos hw]
 obtain ⟨v1, w1, hr, hown, hg, _, hat⟩ := run_append_own_at (P := P) (W.alloc (.cells ys.toArray e)) base t o.type e i0 z size bytes ht hi hz0 hz1 hz2 hz hs0 v n xs (HO.alloc _) ⟨W.heap.size, 0, none⟩ 1 1 ys (by rw [hys]; simp)
  (by simpa using World.news_of_block (cs := ys.toArray) (t := e) (fr := (0, 0)) (heap_alloc_new W (.cells ys.toArray e))) h1 (by simp only [maxLen]; omega) hl (by simp; omega)
 unfold Oper.wp execOp
 simp only [ho, resolve, invoke, builtin, Sem.run_bind, Sem.run_pure, Result.andThen_ok, List.map_toArray, List.map_cons, List.map_nil, hs, hx, hr]
 refine h v1 w1 hown ((HB.alloc hbase _).grown hg (by simp; omega) (qj6 HO)) (World.grownBy.trans (World.grownBy_alloc W _ _) hg) ?_
 rcases hat with hat | hat
 ·
  exact .inl hat
 exact .inr ⟨_, hat, by simp⟩
end
theorem qj7 {w : World} {base base' : Nat} {e : TypeId} {size n : Nat} {v : Value} {xs : List Value} (h : w.ownsRow base e size v n xs) (hb : base' ≤ base) : w.ownsRow base' e size v n xs := by
 obtain ⟨h1, h2⟩ := h
 refine ⟨h1, ?_⟩
 rcases h2 with h2 | ⟨g, cap, cur, rfl, hg, r⟩
 ·
  exact .inl h2
 exact .inr ⟨g, cap, cur, rfl, Nat.le_trans hb hg, r⟩
section
variable {α : Type} {enc : α → Value} {d : α}
def encs (enc : α → Value) (xs : List α) : List Value := xs.map enc
def rdOf (d : α) (xs : List α) (i : Int) : α := xs.getD i.toNat d
theorem qlj (xs : List α) : (encs enc xs).length = xs.length := by simp [encs]
def qe8 (enc : α → Value) (d : α) (w : World) (A : Option Addr) (n : Nat) (xs : List α) : Prop :=
 xs.length = n ∧ n ≤ 9223372036854775807 ∧ (0 < n → ∃ ad, A = some ad ∧ ∀ j, j < n → w.cell? (ad.add j) = some (enc (xs.getD j d)))
theorem qe8.at_ {w : World} {A : Option Addr} {n : Nat} {xs : List α} (h : qe8 enc d w A n xs) (i : Int) (h0 : 0 ≤ i) (h1 : i < n) : ∃ ad, A = some ad ∧ w.cell? (ad.add i.toNat) = some (enc (rdOf d xs i)) := by
 obtain ⟨ad, e, hc⟩ := h.2.2 (by omega)
 exact ⟨ad, e, hc _ (by omega)⟩
theorem qe8.drop_ {w : World} {A : Option Addr} {n c : Nat} {xs : List α} (h : qe8 enc d w A n xs) (i : Nat) (hi : i ≤ n) (hc : n ≤ c) : qe8 enc d w (if c = i then A else A.map (·.add i)) (n - i) (xs.drop i) := by
 refine ⟨by rw [List.length_drop, h.1], by have := h.2.1; omega, fun hp => ?_⟩
 obtain ⟨ad, rfl, hcell⟩ := h.2.2 (by omega)
 rw [if_neg (by omega)]
 refine ⟨ad.add i, rfl, fun j hj => ?_⟩
 have ha : (ad.add i).add j = ad.add (i + j) := by
  unfold Addr.add
  by_cases h1 : i = 0 <;> by_cases h2 : j = 0 <;> simp [h1, h2, Nat.add_assoc]
 rw [ha, hcell (i + j) (by omega)]
 simp [List.getD_eq_getElem?_getD, List.getElem?_drop]
theorem qok {P : Program} (enc : α → Value) (d : α) (t e : TypeId) (kl : IntKind) {i : TypeInfo} (ht : P.underlying t = some (.slice e)) (hi : P.info? e = some i) (hsz : i.size = 1) (A : Option Addr) (n c m : Nat) (hm : m ≤ n) :
  ∃ A' : Option Addr, (∀ W : World, (Instr.slice t (.slice A n c) (some (.int kl (m : Int))) none none).run P W = .ok (.slice A' (n - m) (c - m)) W) ∧
   ∀ (w : World) (xs : List α), n ≤ c → qe8 enc d w A n xs → qe8 enc d w A' (n - m) (xs.drop m) := by
 refine ⟨if c = m then A else A.map (·.add m), fun W => ?_, fun w xs hc h => h.drop_ m hm hc⟩
 have hel : P.elem t = e := by simp [Program.elem, ht]
 have hu : P.underlying t = some (.slice (P.elem t)) := by rw [hel]; exact ht
 rw [run_slice_l W t A n c hu kl (m : Int) (Int.natCast_nonneg _) (by omega), hel]
 simp [sizeOf, typeInfo, hi, hsz, sliced, Result.andThen]
theorem qoj {W : World} {base g n cap : Nat} {e : TypeId} {xs : List α} (h : W.ownsRow base e 1 (.slice (some ⟨g, 0, none⟩) n cap) n (encs enc xs)) (i : Int) (x : α) :
  (W.setCell ⟨g, i.toNat, none⟩ (enc x)).ownsRow base e 1 (.slice (some ⟨g, 0, none⟩) n cap) n (encs enc (xs.set i.toNat x)) ∧ W.grownBy (W.setCell ⟨g, i.toNat, none⟩ (enc x)) (some g) := by
 have hs := h.stored i.toNat (enc x)
 have he : (encs enc xs).set i.toNat (enc x) = encs enc (xs.set i.toNat x) := by simp [encs, List.map_set]
 rwa [he] at hs
end
theorem qab {w : World} {g : Nat} {o : Obj} (h : w.heap[g]? = some o) (o' : Obj) : (w.alloc o').heap[g]? = some o := (Below.heap_alloc w o' g (qaN h)).trans h
theorem qae {w : World} {g : Nat} {o : Obj} (h : w.heap[g]? = some o) : w.drew.heap[g]? = some o := h
theorem qac {w : World} {g : Nat} {o : Obj} (h : w.heap[g]? = some o) (n : Nat) : (w.drewN n).heap[g]? = some o := h
theorem qar {w w1 : World} {g : Nat} {o : Obj} (h : w.heap[g]? = some o) (hb : Below w.heap.size w w1) : w1.heap[g]? = some o := (hb.block g (qaN h)).trans h
theorem qgR (w : World) (o : Obj) : (w.alloc o).heap[w.heap.size]? = some o := heap_alloc_new w o
section
variable {P : Program}
theorem qj9 {fn : Func} {p u : Tmp} {ty : TypeId} (h : fn.results = #[.cell p ty, .tmp u]) (tmps : Array Value) (w : World) (g : Nat) (t : TypeId) (cs : Array Value) (fr : Nat × Nat) (d : TypeDesc)
  (hp : tmps.getD p undef = .pointer (some ⟨g, 0, none⟩)) (hg : w.heap[g]? = some (.cells cs t fr))
  (hu : P.underlying ty = some d) (hd : (match d with | .struct _ | .array _ _ => true | _ => false) = true) (hi : (P.info? ty).map (·.size) = some cs.size) :
  (results fn tmps).run P w = .ok (.tuple #[.agg cs, tmps.getD u undef]) w := by
 have hp' : tmps[p]?.getD undef = .pointer (some ⟨g, 0, none⟩) := by simpa using hp
 simp [results, h, hp', asAddr, run_loadVar_row w g t ty cs fr d hg hu hd hi]
theorem qpL {fn : Func} {p u : Tmp} {ty : TypeId} (h : fn.results = #[.tmp u, .cell p ty]) (tmps : Array Value) (w : World) (g : Nat) (t : TypeId) (cs : Array Value) (fr : Nat × Nat) (d : TypeDesc)
  (hp : tmps.getD p undef = .pointer (some ⟨g, 0, none⟩)) (hg : w.heap[g]? = some (.cells cs t fr))
  (hu : P.underlying ty = some d) (hd : (match d with | .struct _ | .array _ _ => true | _ => false) = true) (hi : (P.info? ty).map (·.size) = some cs.size) :
  (results fn tmps).run P w = .ok (.tuple #[tmps.getD u undef, .agg cs]) w := by
 have hp' : tmps[p]?.getD undef = .pointer (some ⟨g, 0, none⟩) := by simpa using hp
 simp [results, h, hp', asAddr, run_loadVar_row w g t ty cs fr d hg hu hd hi]
end
theorem qtV {w : World} {base n m c size : Nat} {e : TypeId} {A : Option Addr} {xs : List Value} (h : w.ownsRow base e size (.slice A m c) n xs) : m ≤ c := by
 rcases h.2 with ⟨he, _⟩ | ⟨g, cap, cur, he, _, _, hnc, _⟩
 ·
  injection he with _ h2 h3
  omega
 injection he with _ h2 h3
 omega
def qfD {α : Type} (R : α → List Value → Prop) (e : TypeId) (size : Nat) (w : World) (base : Nat) (v : Value) (ps : List α) : Prop :=
 ∃ inner, w.ownsRow base e size v ps.length inner ∧ Reps R size ps inner
section
variable {α : Type} {R R' : α → List Value → Prop} {e : TypeId} {size : Nat} {w w1 : World} {base : Nat} {v : Value} {ps : List α}
theorem qfD.none_ (R : α → List Value → Prop) (e : TypeId) (size : Nat) (w : World) (base : Nat) : qfD R e size w base (.slice none 0 0) [] := ⟨[], qtk _ _ _ _, Reps.none _ _⟩
theorem qfD.imp_ (h : qfD R e size w base v ps) (hR : ∀ p c, R p c → R' p c) : qfD R' e size w base v ps := by
 obtain ⟨inner, ho, hr⟩ := h
 exact ⟨inner, ho, hr.imp_ hR⟩
theorem qfD.reads (h : qfD R e size w base v ps) : ∃ A c, v = .slice A ps.length c ∧ ps.length ≤ c ∧ qfA R size w A ps.length ps := by
 obtain ⟨inner, ho, hr⟩ := h
 obtain ⟨A, c, rfl, hrow⟩ := qnk ho hr rfl
 exact ⟨A, c, rfl, qtV ho, hrow⟩
theorem qfD.ne_block (h : qfD R e size w base v ps) {g : Nat} {t : TypeId} {cells : Array Value} (hb : w.heap[g]? = some (.cells cells t (0, 0))) (ht : e ≠ t) : some g ≠ v.ownBlock := by
 obtain ⟨inner, ho, hr⟩ := h
 exact qtW ho hb ht
end
section
variable {α : Type} {P : Program}
theorem qkb (enc : α → Value) (d : α) (t e : TypeId) (kl : IntKind) {i : TypeInfo} (ht : P.underlying t = some (.slice e)) (hi : P.info? e = some i) (hsz : i.size = 1) (A : Option Addr) (c : Nat) (xs : List α) (j : Int) (h0 : 0 ≤ j) (hm : j ≤ xs.length) (hc : xs.length ≤ c) :
  ∃ A' : Option Addr, (∀ W : World, (Instr.slice t (.slice A xs.length c) (some (.int kl j)) none none).run P W = .ok (.slice A' (xs.drop j.toNat).length (c - j.toNat)) W) ∧
   (∀ w : World, qe8 enc d w A xs.length xs → qe8 enc d w A' (xs.drop j.toNat).length (xs.drop j.toNat)) ∧ (xs.drop j.toNat).length ≤ c - j.toNat := by
 obtain ⟨m, rfl⟩ := Int.eq_ofNat_of_zero_le h0
 simp only [Int.toNat_natCast]
 have hmn : m ≤ xs.length := by omega
 obtain ⟨A', h1, h2⟩ := qok (P := P) enc d t e kl ht hi hsz A xs.length c m hmn
 have hl : (xs.drop m).length = xs.length - m := List.length_drop
 exact ⟨A', fun W => by rw [hl]; exact h1 W, fun w h => by rw [hl]; exact h2 w xs hc h, by rw [hl]; omega⟩
end
structure Kd (α : Type) where
 sz : Nat
 E : List Nat
 K : World → α → List Value → Prop
 M : World → Nat → (Nat → Prop) → α → List Value → Prop
 K_len : ∀ {w x cs}, K w x cs → cs.length = sz
 K_one : ∀ {w x cs}, K w x cs → ∀ u ∈ cs, u.oneCell' = true
 K_below : ∀ {w w1 : World} {x cs}, Below w.heap.size w w1 → K w x cs → K w1 x cs
 K_of_M : ∀ {w base ok x cs}, M w base ok x cs → K w x cs
 M_mono : ∀ {w base ok ok' x cs}, (∀ k, ok k → ok' k) → M w base ok x cs → M w base ok' x cs
 M_bound : ∀ {w : World} {base ok x cs}, M w base ok x cs → M w base (fun k => ok k ∧ base ≤ k ∧ k < w.heap.size ∧ ∃ q, q ∈ E ∧ ∃ cells, w.heap[k]? = some (.cells cells q (0, 0))) x cs
 M_move : ∀ {w w1 : World} {base ok x cs}, (∀ k, ok k → w1.heap[k]? = w.heap[k]?) → M w base ok x cs → M w1 base ok x cs
 M_lower : ∀ {w base base' ok x cs}, base' ≤ base → M w base ok x cs → M w base' ok x cs
theorem qqH {w w1 : World} {base : Nat} {e : TypeId} {size n : Nat} {v : Value} {xs : List Value} (h : w.ownsRow base e size v n xs) (hm : ∀ k, v.ownBlock = some k → w1.heap[k]? = w.heap[k]?) : w1.ownsRow base e size v n xs := by
 obtain ⟨h1, h2⟩ := h
 refine ⟨h1, ?_⟩
 rcases h2 with h2 | ⟨g, cap, cur, rfl, hg, hh, r⟩
 ·
  exact .inl h2
 exact .inr ⟨g, cap, cur, rfl, hg, (hm g (by simp [Value.ownBlock])).trans hh, r⟩
theorem qgg {w : World} {base : Nat} {e : TypeId} {size n : Nat} {v : Value} {xs : List Value} (h : w.ownsRow base e size v n xs) (k : Nat) (hk : v.ownBlock = some k) : ∃ cells, w.heap[k]? = some (.cells cells e (0, 0)) := by
 rcases h.2 with ⟨rfl, _⟩ | ⟨g, cap, cur, rfl, hg, hh, r⟩
 ·
  simp [Value.ownBlock] at hk
 have : g = k := by simpa [Value.ownBlock] using hk
 subst this
 exact ⟨cur, hh⟩
namespace Kd
def C {α : Type} (d : Kd α) (w : World) (A : Option Addr) (n : Nat) (xs : List α) : Prop := qfA (d.K w) d.sz w A n xs
def R {α : Type} (d : Kd α) (e : Nat) (w : World) (base : Nat) (ok : Nat → Prop) (v : Value) (xs : List α) : Prop :=
 (∀ k, v.ownBlock = some k → ok k) ∧ qfD (d.M w base (fun k => ok k ∧ some k ≠ v.ownBlock)) e d.sz w base v xs
section
variable {α : Type} {d : Kd α} {e : Nat} {w w1 : World} {base : Nat} {ok ok' : Nat → Prop} {v : Value} {xs : List α}
theorem C_below {A : Option Addr} {n : Nat} (h : d.C w A n xs) (hb : Below w.heap.size w w1) : d.C w1 A n xs := qfA.imp_ h hb (fun _ _ hp => d.K_below hb hp)
theorem R_nil (d : Kd α) (e : Nat) (w : World) (base : Nat) (ok : Nat → Prop) : d.R e w base ok (.slice none 0 0) [] := ⟨fun k hk => by simp [Value.ownBlock] at hk, qfD.none_ _ _ _ _ _⟩
theorem R_mono (h : d.R e w base ok v xs) (hok : ∀ k, ok k → ok' k) : d.R e w base ok' v xs := ⟨fun k hk => hok k (h.1 k hk), h.2.imp_ (fun _ _ hp => d.M_mono (fun k hk => ⟨hok k hk.1, hk.2⟩) hp)⟩
theorem R_bound (h : d.R e w base ok v xs) : d.R e w base (fun k => ok k ∧ base ≤ k ∧ k < w.heap.size ∧ ∃ q, q ∈ e :: d.E ∧ ∃ cells, w.heap[k]? = some (.cells cells q (0, 0))) v xs := by
 obtain ⟨h0, inner, ho, hr⟩ := h
 refine ⟨fun k hk => ?_, inner, ho, hr.imp_ (fun _ _ hp => d.M_mono (fun k hk => ?_) (d.M_bound hp))⟩
 ·
  obtain ⟨cells, hc⟩ := qgg ho k hk
  exact ⟨h0 k hk, qj6 ho k hk, qqg ho k hk, e, List.mem_cons_self, cells, hc⟩
 obtain ⟨⟨h1, h2⟩, h3, h4, q, hq, hc⟩ := hk
 exact ⟨⟨h1, h3, h4, q, List.mem_cons_of_mem _ hq, hc⟩, h2⟩
theorem R_move (h : d.R e w base ok v xs) (hm : ∀ k, ok k → w1.heap[k]? = w.heap[k]?) : d.R e w1 base ok v xs := by
 obtain ⟨h0, inner, ho, hr⟩ := h
 exact ⟨h0, inner, qqH ho (fun k hk => hm k (h0 k hk)), hr.imp_ (fun _ _ hp => d.M_move (fun k hk => hm k hk.1) hp)⟩
theorem R_lower {base' : Nat} (h : d.R e w base ok v xs) (hb : base' ≤ base) : d.R e w base' ok v xs := by
 obtain ⟨h0, inner, ho, hr⟩ := h
 exact ⟨h0, inner, qj7 ho hb, hr.imp_ (fun _ _ hp => d.M_lower hb hp)⟩
theorem qkj (h : d.R e w base ok v xs) (hm : ∀ k, ok k → k < w.heap.size → w1.heap[k]? = w.heap[k]?) : d.R e w1 base ok v xs :=
 R_mono (R_move (R_bound h) (fun k hk => hm k hk.1 hk.2.2.1)) (fun _ hk => hk.1)
theorem qpW {x : α} {cs : List Value} (h : d.M w base ok x cs) (hm : ∀ k, ok k → k < w.heap.size → w1.heap[k]? = w.heap[k]?) : d.M w1 base ok x cs :=
 d.M_mono (fun _ hk => hk.1) (d.M_move (fun k hk => hm k hk.1 hk.2.2.1) (d.M_bound h))
theorem R_below (h : d.R e w base ok v xs) (hb : Below w.heap.size w w1) : d.R e w1 base ok v xs := qkj h (fun k _ hk => hb.block k hk)
theorem qrN {x : α} {cs : List Value} (h : d.M w base ok x cs) (hb : Below w.heap.size w w1) : d.M w1 base ok x cs := qpW h (fun k _ hk => hb.block k hk)
theorem R_far (h : d.R e w base ok v xs) {p : Addr} (hok : ∀ k, ok k → k ≠ p.block) (u : Value) : d.R e (w.setCell p u) base ok v xs := qkj h (fun k ho _ => Below.heap_setCell w p u k (hok k ho))
theorem R_types (h : d.R e w base ok v xs) {g t : Nat} {cells : Array Value} (hb : w.heap[g]? = some (.cells cells t (0, 0))) (ht : ∀ q, q ∈ e :: d.E → q ≠ t) : d.R e w base (fun k => ok k ∧ k ≠ g) v xs :=
 R_mono (R_bound h) (fun k hk => ⟨hk.1, by
  obtain ⟨_, _, _, q, hq, cells', hc⟩ := hk
  rintro rfl
  rw [hc] at hb
  injection hb with hb
  injection hb with _ hb
  exact ht q hq hb⟩)
theorem R_reads (h : d.R e w base ok v xs) : ∃ A c, v = .slice A xs.length c ∧ xs.length ≤ c ∧ d.C w A xs.length xs := by
 obtain ⟨A, c, he, hl, hr⟩ := qfD.reads h.2
 exact ⟨A, c, he, hl, hr.imp_ (Below.refl _ _) (fun _ _ hp => d.K_of_M hp)⟩
theorem R_slice (h : d.R e w base ok v xs) : ∃ A c, v = .slice A xs.length c := by
 obtain ⟨A, c, he, _⟩ := R_reads h
 exact ⟨A, c, he⟩
theorem qnD (h : d.R e w base ok v xs) : ∃ inner, w.ownsRow base e d.sz v xs.length inner := by
 obtain ⟨_, inner, ho, _⟩ := h
 exact ⟨inner, ho⟩
theorem R_ne (h : d.R e w base ok v xs) {g t : Nat} {cells : Array Value} (hb : w.heap[g]? = some (.cells cells t (0, 0))) (ht : e ≠ t) : some g ≠ v.ownBlock := qfD.ne_block h.2 hb ht
end
def scalar {α : Type} (enc : α → Value) (h1 : ∀ x, (enc x).oneCell' = true) : Kd α where
 sz := 1
 E := []
 K := fun _ x cs => cs = [enc x]
 M := fun _ _ _ x cs => cs = [enc x]
 K_len := fun h => by rw [h]; rfl
 K_one := fun h u hu => by
  rw [h] at hu
  rw [List.mem_singleton.1 hu]
  exact h1 _
 K_below := fun _ h => h
 K_of_M := fun h => h
 M_mono := fun _ h => h
 M_bound := fun h => h
 M_move := fun _ h => h
 M_lower := fun _ h => h
def int (k : IntKind) : Kd Int := scalar (Value.int k) (fun _ => rfl)
def bool : Kd Bool := scalar Value.bool (fun _ => rfl)
def string : Kd ByteArray := scalar Value.string (fun _ => rfl)
def slice {α : Type} (e : Nat) (d : Kd α) : Kd (List α) where
 sz := 1
 E := e :: d.E
 K := fun w xs cs => ∃ A c, cs = [.slice A xs.length c] ∧ xs.length ≤ c ∧ d.C w A xs.length xs
 M := fun w base ok xs cs => ∃ v, cs = [v] ∧ d.R e w base ok v xs
 K_len := by
  rintro w x cs ⟨A, c, rfl, _⟩
  rfl
 K_one := by
  rintro w x cs ⟨A, c, rfl, _⟩ u hu
  rw [List.mem_singleton.1 hu]
  rfl
 K_below := by
  rintro w w1 x cs hb ⟨A, c, rfl, hl, hr⟩
  exact ⟨A, c, rfl, hl, C_below hr hb⟩
 K_of_M := by
  rintro w base ok x cs ⟨v, rfl, h⟩
  obtain ⟨A, c, rfl, hl, hr⟩ := R_reads h
  exact ⟨A, c, rfl, hl, hr⟩
 M_mono := by
  rintro w base ok ok' x cs hok ⟨v, rfl, h⟩
  exact ⟨v, rfl, R_mono h hok⟩
 M_bound := by
  rintro w base ok x cs ⟨v, rfl, h⟩
  exact ⟨v, rfl, R_bound h⟩
 M_move := by
  rintro w w1 base ok x cs hm ⟨v, rfl, h⟩
  exact ⟨v, rfl, R_move h hm⟩
 M_lower := by
  rintro w base base' ok x cs hb ⟨v, rfl, h⟩
  exact ⟨v, rfl, R_lower h hb⟩
def pair {α β : Type} (a : Kd α) (b : Kd β) : Kd (α × β) where
 sz := a.sz + b.sz
 E := a.E ++ b.E
 K := fun w x cs => ∃ c0 c1, cs = c0 ++ c1 ∧ a.K w x.1 c0 ∧ b.K w x.2 c1
 M := fun w base ok x cs => ∃ c0 c1, cs = c0 ++ c1 ∧ a.M w base ok x.1 c0 ∧ b.M w base ok x.2 c1
 K_len := by
  rintro w x cs ⟨c0, c1, rfl, h0, h1⟩
  rw [List.length_append, a.K_len h0, b.K_len h1]
 K_one := by
  rintro w x cs ⟨c0, c1, rfl, h0, h1⟩ u hu
  rcases List.mem_append.1 hu with hu | hu
  ·
   exact a.K_one h0 u hu
  exact b.K_one h1 u hu
 K_below := by
  rintro w w1 x cs hb ⟨c0, c1, rfl, h0, h1⟩
  exact ⟨c0, c1, rfl, a.K_below hb h0, b.K_below hb h1⟩
 K_of_M := by
  rintro w base ok x cs ⟨c0, c1, rfl, h0, h1⟩
  exact ⟨c0, c1, rfl, a.K_of_M h0, b.K_of_M h1⟩
 M_mono := by
  rintro w base ok ok' x cs hok ⟨c0, c1, rfl, h0, h1⟩
  exact ⟨c0, c1, rfl, a.M_mono hok h0, b.M_mono hok h1⟩
 M_bound := by
  rintro w base ok x cs ⟨c0, c1, rfl, h0, h1⟩
  refine ⟨c0, c1, rfl, a.M_mono ?_ (a.M_bound h0), b.M_mono ?_ (b.M_bound h1)⟩
  ·
   rintro k ⟨h2, h3, h4, q, hq, hc⟩
   exact ⟨h2, h3, h4, q, List.mem_append_left _ hq, hc⟩
  rintro k ⟨h2, h3, h4, q, hq, hc⟩
  exact ⟨h2, h3, h4, q, List.mem_append_right _ hq, hc⟩
 M_move := by
  rintro w w1 base ok x cs hm ⟨c0, c1, rfl, h0, h1⟩
  exact ⟨c0, c1, rfl, a.M_move hm h0, b.M_move hm h1⟩
 M_lower := by
  rintro w base base' ok x cs hb ⟨c0, c1, rfl, h0, h1⟩
  exact ⟨c0, c1, rfl, a.M_lower hb h0, b.M_lower hb h1⟩
def iso {α β : Type} (d : Kd α) (f : β → α) : Kd β where
 sz := d.sz
 E := d.E
 K := fun w x cs => d.K w (f x) cs
 M := fun w base ok x cs => d.M w base ok (f x) cs
 K_len := d.K_len
 K_one := d.K_one
 K_below := d.K_below
 K_of_M := d.K_of_M
 M_mono := d.M_mono
 M_bound := d.M_bound
 M_move := d.M_move
 M_lower := d.M_lower
theorem C_get {α : Type} {d : Kd α} {w : World} {A : Option Addr} {n : Nat} {xs : List α} (h : d.C w A n xs) (z : α) (i : Int) (h0 : 0 ≤ i) (h1 : i < n) :
  ∃ ad c, A = some ad ∧ c.length = d.sz ∧ d.K w (xs.getD i.toNat z) c ∧ ∀ j u, c[j]? = some u → w.cell? (ad.add (i.toNat * d.sz + j)) = some u := qfA.get_ h z i h0 h1
theorem qlu {α : Type} {d : Kd α} {e base : Nat} {ok okp : Nat → Prop} {W w1 : World} {v v1 : Value} {xs : List α} {p : α} {inner cs : List Value} (h0 : ∀ k, v.ownBlock = some k → ok k) (hr : Reps (d.M W base (fun k => ok k ∧ some k ≠ v.ownBlock)) d.sz xs inner) (hp : d.M W base okp p cs) (hokp : ∀ k, okp k → ok k ∧ some k ≠ v.ownBlock) (hfresh : ∀ k, W.heap.size ≤ k → ok k)
  (hown : w1.ownsRow base e d.sz v1 (xs.length + 1) (inner ++ cs)) (hg : W.grownBy w1 v.ownBlock) (hat : v1.ownBlock = v.ownBlock ∨ ∃ b, v1.ownBlock = some b ∧ W.heap.size ≤ b) : d.R e w1 base ok v1 (xs ++ [p]) := by
 have hne : ∀ k, some k ≠ v.ownBlock → k < W.heap.size → some k ≠ v1.ownBlock := by
  intro k hk hlt
  rcases hat with hat | ⟨b, hb, hle⟩
  ·
   rw [hat]; exact hk
  rw [hb]
  intro he
  injection he with he
  omega
 have step : ∀ {q : α} {c : List Value} {o : Nat → Prop}, d.M W base o q c → (∀ k, o k → ok k ∧ some k ≠ v.ownBlock) → d.M w1 base (fun k => ok k ∧ some k ≠ v1.ownBlock) q c := by
  intro q c o hq ho
  have h1 := d.M_move (w1 := w1) (fun k hk => hg.block k hk.2.2.1 (ho k hk.1).2) (d.M_bound hq)
  exact d.M_mono (fun k hk => ⟨(ho k hk.1).1, hne k (ho k hk.1).2 hk.2.2.1⟩) h1
 refine ⟨fun k hk => ?_, inner ++ cs, by rw [List.length_append, List.length_singleton]; exact hown, ?_⟩
 ·
  rcases hat with hat | ⟨b, hb, hle⟩
  ·
   exact h0 k (hat ▸ hk)
  rw [hb] at hk
  injection hk with hk
  exact hfresh k (by omega)
 exact (hr.imp_ (fun _ _ hq => step hq (fun _ hk => hk))).snoc (step hp hokp) (d.K_len (d.K_of_M hp))
section
variable {P : Program} {ops : Array Oper} {rest : List Oper} {o : Oper} {a : Act} {Q : Exit → Act → World → Prop} {α : Type}
theorem R_append (d : Kd α) {w0 W : World} (base : Nat) (hgd : o.guard = none) (s x : Operand) (t e : TypeId) (z : Value) (bytes : Nat)
  (ho : o.op = .call { callee := .builtin .append, args := #[s, x], argTypes := #[t, t] })
  (ht : P.underlying t = some (.slice e)) (hinfo : (P.info? e).map (fun i => (i.zero, i.size, i.bytes)) = some (some z, d.sz, bytes)) (hz : z.cells.size = d.sz) (hs0 : 0 < d.sz) (hb0 : 0 < bytes)
  (v : Value) (xs : List α) (p : α) (cs : List Value) (ok okp : Nat → Prop) (hs : a.eval s = v) (hx : a.eval x = .slice (some ⟨W.heap.size, 0, none⟩) 1 1) (hp : d.M W base okp p cs) (hokp : ∀ k, okp k → ok k ∧ some k ≠ v.ownBlock) (hfresh : ∀ k, W.heap.size ≤ k → ok k)
  (HO : d.R e W base ok v xs) (HB : Below base w0 W) (hbase : base ≤ W.heap.size) (hl : (xs.length + 1) * bytes ≤ 140737488355328)
  (h : ∀ v1 w1, d.R e w1 base ok v1 (xs ++ [p]) → Below base w0 w1 → W.grownBy w1 v.ownBlock → (v1.ownBlock = v.ownBlock ∨ ∃ b, v1.ownBlock = some b ∧ W.heap.size ≤ b) → wpList P ops Q rest (a.put o.dst v1) w1) :
  wpList P ops Q (o :: rest) a (W.alloc (.cells cs.toArray e)) := by
 obtain ⟨h0, inner, hown, hr⟩ := HO
 refine qkn base hgd s x t e z d.sz bytes ho ht hinfo hz hs0 hb0 v xs.length inner cs hs hx (d.K_len (d.K_of_M hp)) (d.K_one (d.K_of_M hp)) hown HB hbase hl ?_
 intro v1 w1 hown1 hb1 hg1 hat1
 exact h v1 w1 (qlu h0 hr hp hokp hfresh hown1 hg1 hat1) hb1 hg1 hat1
end
section
variable {P : Program} {ops : Array Oper} {o : Oper} {a : Act} {Q : Exit → Act → World → Prop} {Kc : Act → World → Prop} {α : Type}
theorem R_append_step (d : Kd α) {w0 W : World} (base : Nat) (hw : Region.wanted o (yielded ops a.tmps) = true) (s x : Operand) (t e : TypeId) (z : Value) (bytes : Nat)
  (ho : o.op = .call { callee := .builtin .append, args := #[s, x], argTypes := #[t, t] })
  (ht : P.underlying t = some (.slice e)) (hinfo : (P.info? e).map (fun i => (i.zero, i.size, i.bytes)) = some (some z, d.sz, bytes)) (hz : z.cells.size = d.sz) (hs0 : 0 < d.sz) (hb0 : 0 < bytes)
  (v : Value) (xs : List α) (p : α) (cs : List Value) (ok okp : Nat → Prop) (hs : a.eval s = v) (hx : a.eval x = .slice (some ⟨W.heap.size, 0, none⟩) 1 1) (hp : d.M W base okp p cs) (hokp : ∀ k, okp k → ok k ∧ some k ≠ v.ownBlock) (hfresh : ∀ k, W.heap.size ≤ k → ok k)
  (HO : d.R e W base ok v xs) (HB : Below base w0 W) (hbase : base ≤ W.heap.size) (hl : (xs.length + 1) * bytes ≤ 140737488355328)
  (h : ∀ v1 w1, d.R e w1 base ok v1 (xs ++ [p]) → Below base w0 w1 → W.grownBy w1 v.ownBlock → (v1.ownBlock = v.ownBlock ∨ ∃ b, v1.ownBlock = some b ∧ W.heap.size ≤ b) → Kc (a.put o.dst v1) w1) :
  if Region.wanted o (yielded ops a.tmps) = true then Oper.wp P o a (W.alloc (.cells cs.toArray e)) Kc Q else Kc (a.put o.dst undef) (W.alloc (.cells cs.toArray e)) := by
 obtain ⟨h0, inner, hown, hr⟩ := HO
 refine qlg base hw s x t e z d.sz bytes ho ht hinfo hz hs0 hb0 v xs.length inner cs hs hx (d.K_len (d.K_of_M hp)) (d.K_one (d.K_of_M hp)) hown HB hbase hl ?_
 intro v1 w1 hown1 hb1 hg1 hat1
 exact h v1 w1 (qlu h0 hr hp hokp hfresh hown1 hg1 hat1) hb1 hg1 hat1
end
theorem qou {α : Type} {enc : α → Value} (xs : List α) : Reps (fun (x : α) (cs : List Value) => cs = [enc x]) 1 xs (encs enc xs) := by
 refine ⟨by simp [encs], fun j p hj => ?_⟩
 obtain ⟨hl, hp⟩ := List.getElem?_eq_some_iff.1 hj
 have hl' : j < (encs enc xs).length := by rw [qlj]; exact hl
 rw [Nat.mul_one, List.drop_eq_getElem_cons hl']
 simp [encs, hp]
theorem R_of_own {α : Type} {enc : α → Value} {h1 : ∀ x, (enc x).oneCell' = true} {e : Nat} {w : World} {base : Nat} {ok : Nat → Prop} {v : Value} {xs : List α} (ho : w.ownsRow base e 1 v xs.length (encs enc xs)) (hok : ∀ k, v.ownBlock = some k → ok k) : (scalar enc h1).R e w base ok v xs := ⟨hok, encs enc xs, ho, qou xs⟩
theorem qqI {α : Type} {enc : α → Value} {h1 : ∀ x, (enc x).oneCell' = true} {e : Nat} {w : World} {base : Nat} {ok : Nat → Prop} {v : Value} {xs : List α} (h : (scalar enc h1).R e w base ok v xs) : w.ownsRow base e 1 v xs.length (encs enc xs) := by
 obtain ⟨_, inner, ho, hr⟩ := h
 have : inner = encs enc xs := by
  apply List.ext_getElem?
  intro j
  rcases Nat.lt_or_ge j xs.length with hj | hj
  ·
   have h2 := hr.2 j _ (List.getElem?_eq_getElem hj)
   have hl : j < inner.length := by have := hr.1; simp [scalar] at this; omega
   have h3 : (inner.drop (j * 1)).take 1 = [enc xs[j]] := h2
   rw [Nat.mul_one, List.drop_eq_getElem_cons hl] at h3
   have h4 : inner[j] = enc xs[j] := by
    have h5 := congrArg List.head? h3; rw [List.take_succ_cons] at h5
    exact Option.some.inj h5
   rw [List.getElem?_eq_getElem hl, h4]
   simp [encs, List.getElem?_eq_getElem hj]
  have h3 : inner.length = xs.length := by have := hr.1; simp [scalar] at this; omega
  rw [List.getElem?_eq_none (by omega), List.getElem?_eq_none (by rw [qlj]; omega)]
 rw [← this]
 exact ho
theorem C_of_reads {α : Type} {enc : α → Value} {d : α} {h1 : ∀ x, (enc x).oneCell' = true} {w : World} {A : Option Addr} {n : Nat} {xs : List α} (h : qe8 enc d w A n xs) : (scalar enc h1).C w A n xs := by
 refine ⟨h.1, h.2.1, fun hn => ?_⟩
 obtain ⟨ad, e, hc⟩ := h.2.2 hn
 refine ⟨ad, e, fun j p hj => ⟨[enc p], rfl, rfl, fun i u hu => ?_⟩⟩
 obtain ⟨hl, hp⟩ := List.getElem?_eq_some_iff.1 hj
 have h2 := hc j (by have := h.1; omega)
 rw [List.getD_eq_getElem?_getD, hj] at h2
 cases i with
 | zero =>
  have : enc p = u := by simpa using hu
  subst this
  simpa [scalar] using h2
 | succ i => simp at hu
theorem reads_of_C {α : Type} {enc : α → Value} {d : α} {h1 : ∀ x, (enc x).oneCell' = true} {w : World} {A : Option Addr} {n : Nat} {xs : List α} (h : (scalar enc h1).C w A n xs) : qe8 enc d w A n xs := by
 refine ⟨h.1, h.2.1, fun hn => ?_⟩
 obtain ⟨ad, e, hc⟩ := h.2.2 hn
 refine ⟨ad, e, fun j hj => ?_⟩
 have hl : j < xs.length := by have := h.1; omega
 obtain ⟨c, _, hK, hcell⟩ := hc j _ (List.getElem?_eq_getElem hl)
 have hK' : c = [enc xs[j]] := hK
 subst hK'
 have := hcell 0 _ rfl
 simpa [scalar, List.getD_eq_getElem?_getD, List.getElem?_eq_getElem hl] using this
end Kd
namespace Kd
section
variable {α β : Type} {d : Kd α} {d' : Kd β} {e e' : Nat} {w w1 W : World} {base b b' : Nat} {ok ok' okv oku : Nat → Prop} {v u : Value} {xs : List α} {ys : List β}
theorem R_alloc (h : d.R e w base ok v xs) (o : Obj) : d.R e (w.alloc o) base ok v xs := R_below h (qag (Below.refl _ _) o)
theorem R_drew (h : d.R e w base ok v xs) : d.R e w.drew base ok v xs := R_below h (qbC (Below.refl _ _))
theorem R_drewN (h : d.R e w base ok v xs) (m : Nat) : d.R e (w.drewN m) base ok v xs := R_below h (qad (Below.refl _ _) m)
theorem C_alloc {A : Option Addr} {n : Nat} (h : d.C w A n xs) (o : Obj) : d.C (w.alloc o) A n xs := C_below h (qag (Below.refl _ _) o)
theorem C_drew {A : Option Addr} {n : Nat} (h : d.C w A n xs) : d.C w.drew A n xs := C_below h (qbC (Below.refl _ _))
theorem C_drewN {A : Option Addr} {n : Nat} (h : d.C w A n xs) (m : Nat) : d.C (w.drewN m) A n xs := C_below h (qad (Below.refl _ _) m)
theorem C_nil (d : Kd α) (w : World) : d.C w none ([] : List α).length [] := ⟨rfl, by simp, fun h => absurd h (Nat.lt_irrefl 0)⟩
theorem R_reads' {A : Option Addr} {n c : Nat} (h : d.R e w base ok (.slice A n c) xs) : n = xs.length ∧ n ≤ c ∧ d.C w A xs.length xs := by
 obtain ⟨A', c', he, hl, hr⟩ := R_reads h
 injection he with h1 h2 h3
 subst h1
 exact ⟨h2, by omega, hr⟩
theorem R_lt (h : d.R e w base ok v xs) : ∀ k, v.ownBlock = some k → k < w.heap.size := by
 obtain ⟨inner, ho⟩ := qnD h
 exact qqg ho
theorem R_base (h : d.R e w base ok v xs) : ∀ k, v.ownBlock = some k → base ≤ k := by
 obtain ⟨inner, ho⟩ := qnD h
 exact qj6 ho
theorem R_form (h : d.R e w base ok v xs) (hp : 0 < xs.length) : ∃ g cap, v = .slice (some ⟨g, 0, none⟩) xs.length cap ∧ base ≤ g ∧ g < w.heap.size ∧ ∃ cells, w.heap[g]? = some (.cells cells e (0, 0)) := by
 obtain ⟨inner, ho⟩ := qnD h
 obtain ⟨g, cap, he, hb, hl⟩ := ho.form hp
 obtain ⟨cells, hc⟩ := qgg ho g (by rw [he]; simp [Value.ownBlock])
 exact ⟨g, cap, he, hb, hl, cells, hc⟩
end
section
variable {w W : World} {A : Option Addr} {n : Nat}
theorem at_int {k : IntKind} {xs : List Int} (h : (Kd.int k).C w A n xs) (i : Int) (h0 : 0 ≤ i) (h1 : i < n) : ∃ ad, A = some ad ∧ w.cell? (ad.add i.toNat) = some (.int k (rd xs i)) :=
 qe8.at_ (reads_of_C (enc := Value.int k) (d := (0 : Int)) (h1 := fun _ => rfl) h) i h0 h1
variable {α : Type} {enc : α → Value} {h1 : ∀ x, (enc x).oneCell' = true} {e base g cap : Nat} {ok : Nat → Prop} {xs : List α}
theorem qud (h : (scalar enc h1).R e W base ok (.slice (some ⟨g, 0, none⟩) xs.length cap) xs) (i : Int) (x : α) : (scalar enc h1).R e (W.setCell ⟨g, i.toNat, none⟩ (enc x)) base ok (.slice (some ⟨g, 0, none⟩) xs.length cap) (xs.set i.toNat x) ∧ W.grownBy (W.setCell ⟨g, i.toNat, none⟩ (enc x)) (some g) := by
 obtain ⟨ho, hg⟩ := qoj (qqI h) i x
 exact ⟨R_of_own (by rw [List.length_set]; exact ho) h.1, hg⟩
end
section
variable {P : Program} {ops : Array Oper} {rest : List Oper} {o : Oper} {a : Act} {Q : Exit → Act → World → Prop}
theorem event_run {W w1 : World} {v : Value} (hgd : o.guard = none) (hrun : (execOp a.eval o).run P W = .ok (.value v) w1) (h : wpList P ops Q rest (a.put o.dst v) w1) : wpList P ops Q (o :: rest) a W := by
 refine wpList_plain hgd fun K hK => ?_
 unfold Oper.wp
 rw [hrun]
 exact hK _ _ h
variable {α : Type}
theorem R_lit (d : Kd α) {w0 W : World} (base e : Nat) (hgd : o.guard = none) {N : Tmp} (_hd : o.dst = some N) {xs : List α} {inner : List Value} {ok okp : Nat → Prop}
  (hrun : (execOp a.eval o).run P W = .ok (.value (.slice (some ⟨W.heap.size, 0, none⟩) xs.length xs.length)) (W.alloc (.cells inner.toArray e)))
  (hrep : Reps (d.M W base okp) d.sz xs inner) (hok : ∀ k, okp k → ok k) (hfresh : ok W.heap.size) (HB : Below base w0 W) (hbase : base ≤ W.heap.size) (hm : xs.length ≤ 9223372036854775807)
  (h : ∀ v1 w1, d.R e w1 base ok v1 xs → Below base w0 w1 → W.grownBy w1 none → (∃ b, v1.ownBlock = some b ∧ W.heap.size ≤ b) → wpList P ops Q rest (a.put o.dst v1) w1) : wpList P ops Q (o :: rest) a W := by
 refine event_run hgd hrun (h _ _ ⟨fun k hk => ?_, inner, ?_, ?_⟩ (HB.alloc hbase _) (World.grownBy_alloc W _ none) ⟨W.heap.size, by simp [Value.ownBlock], Nat.le_refl _⟩)
 ·
  have : W.heap.size = k := by simpa [Value.ownBlock] using hk
  subst this
  exact hfresh
 ·
  have h2 := World.ownsRow_lit (base := base) (e := e) (size := d.sz) W inner.toArray xs.length hbase (by simpa [maxLen] using hm) (by simpa using hrep.1)
  simpa using h2
 refine hrep.imp_ (fun p c hp => d.M_mono (fun k hk => ⟨hok k hk.1, fun he => ?_⟩) (qrN (d.M_bound hp) (qag (Below.refl _ _) _)))
 have h3 : k = W.heap.size := by simpa [Value.ownBlock] using he
 have := hk.2.2.1
 omega
theorem qql {α : Type} {R : α → List Value → Prop} {z : Value} {size : Nat} {z0 : α} (hz : z.cells.size = size) (hs : 0 < size) (h0 : R z0 z.cells.toList) (m : Nat) : Reps R size (List.replicate m z0) (madeCells z.cells (m * size)).toList := by
 refine ⟨by simp [size_madeCells], fun j p hj => ?_⟩
 obtain ⟨hjl, hp⟩ := List.getElem?_eq_some_iff.1 hj
 have hjm : j < m := by simpa using hjl
 have hp' : z0 = p := by simpa using hp
 subst hp'
 have hle : j * size + size ≤ m * size := by rw [← Nat.succ_mul]; exact Nat.mul_le_mul_right _ hjm
 have : ((madeCells z.cells (m * size)).toList.drop (j * size)).take size = z.cells.toList := by
  apply List.ext_getElem
  ·
   simp [size_madeCells, hz]
   omega
  intro i h1 h2
  have hi : i < size := by rw [Array.length_toList, hz] at h2; exact h2
  have hmod : (j * size + i) % size = i := by
   rw [Nat.mul_comm, Nat.mul_add_mod]
   exact Nat.mod_eq_of_lt hi
  simp [madeCells, hz, hmod]
  rw [getElem!_pos z.cells i (by omega)]
 rw [this]
 exact h0
theorem R_make (d : Kd α) {w0 W : World} (base e : Nat) (hgd : o.guard = none) {N : Tmp} (hd : o.dst = some N) (t : TypeId) (x y : Operand) (ho : o.op = .makeSlice t x y) (n : Int) (hx : a.eval x = .int .i64 n) (hy : a.eval y = .int .i64 n)
  (ht : P.underlying t = some (.slice e)) (z : Value) (bytes : Nat) (hinfo : (P.info? e).map (fun i => (i.zero, i.size, i.bytes)) = some (some z, d.sz, bytes)) (hz : z.cells.size = d.sz) (hs0 : 0 < d.sz) (hb0 : 0 < bytes)
  (z0 : α) {ok okp : Nat → Prop} (hzero : d.M W base okp z0 z.cells.toList) (hok : ∀ k, okp k → ok k) (hfresh : ok W.heap.size) (h0 : 0 ≤ n) (hl : n.toNat * bytes ≤ 281474976710656) (HB : Below base w0 W) (hbase : base ≤ W.heap.size)
  (h : ∀ v1 w1, d.R e w1 base ok v1 (List.replicate n.toNat z0) → Below base w0 w1 → W.grownBy w1 none → (∃ b, v1.ownBlock = some b ∧ W.heap.size ≤ b) → wpList P ops Q rest (a.put o.dst v1) w1) : wpList P ops Q (o :: rest) a W := by
 obtain ⟨m, rfl⟩ := Int.eq_ofNat_of_zero_le h0
 simp only [Int.toNat_natCast] at hl h
 obtain ⟨i0, hi, hzz⟩ := Option.map_eq_some_iff.1 hinfo
 simp only [Prod.mk.injEq] at hzz
 obtain ⟨hz0, hz1, hz2⟩ := hzz
 have hm : m ≤ 281474976710656 := Nat.le_trans (Nat.le_mul_of_pos_right _ hb0) hl
 have hr := run_make (P := P) W t e i0 z ht hi hz0 .i64 .i64 (m : Int) (m : Int) (by omega) (by omega)
  (by
   have h3 : ((i0.bytes * m : Nat) : Int) ≤ 281474976710656 := by rw [hz2, Nat.mul_comm]; omega
   rwa [Int.natCast_mul] at h3) (by omega)
 simp only [Int.toNat_natCast] at hr
 rw [hz1] at hr
 refine R_lit d base e hgd hd (xs := List.replicate m z0) (inner := (madeCells z.cells (m * d.sz)).toList) (okp := okp) (ok := ok) ?_ (qql hz hs0 hzero m) hok hfresh HB hbase (by simp; omega) h
 simp [execOp, ho, hx, hy, hr]
end
end Kd
theorem qqJ {w : World} {base n m c size : Nat} {e : TypeId} {A : Option Addr} {xs : List Value} (h : w.ownsRow base e size (.slice A n c) n xs) (hm : m ≤ n) : w.ownsRow base e size (.slice A m c) m (xs.take (m * size)) := by
 obtain ⟨h1, h2⟩ := h
 refine ⟨by rw [List.length_take, h1]; exact Nat.min_eq_left (Nat.mul_le_mul_right _ hm), ?_⟩
 rcases h2 with ⟨he, h0⟩ | ⟨g, cap, cur, he, hb, hh, hnc, hcm, hcs, ht⟩
 ·
  injection he with ha _ hc
  subst ha; subst hc
  exact .inl ⟨by rw [show m = 0 by omega], by omega⟩
 injection he with ha _ hc
 subst ha; subst hc
 refine .inr ⟨g, c, cur, rfl, hb, hh, by omega, hcm, hcs, ?_⟩
 rw [← ht, List.take_take, Nat.min_eq_left (Nat.mul_le_mul_right _ hm)]
def QRow (w : World) (base : Nat) (e : TypeId) (size : Nat) (v : Value) (n : Nat) (xs : List Value) : Prop :=
  xs.length = n * size ∧
  ((n = 0 ∧ ∃ A, v = .slice A 0 0 ∧ ∀ a, A = some a → base ≤ a.block ∧ ∃ cur, w.heap[a.block]? = some (.cells cur e (0, 0))) ∨
   ∃ g off cap cur, v = .slice (some ⟨g, off * size, none⟩) n cap ∧ base ≤ g ∧ w.heap[g]? = some (.cells cur e (0, 0)) ∧ n ≤ cap ∧ off + cap ≤ maxLen ∧ cur.size = (off + cap) * size ∧ (cur.toList.drop (off * size)).take (n * size) = xs)
section
variable {w w1 : World} {base n size : Nat} {e : TypeId} {v : Value} {xs : List Value}
theorem qqK (h : w.ownsRow base e size v n xs) : QRow w base e size v n xs := by
 obtain ⟨h1, h2⟩ := h
 refine ⟨h1, ?_⟩
 rcases h2 with ⟨rfl, h0⟩ | ⟨g, cap, cur, rfl, hb, hh, hnc, hcm, hcs, ht⟩
 ·
  exact .inl ⟨h0, none, rfl, fun a ha => by cases ha⟩
 exact .inr ⟨g, 0, cap, cur, by rw [Nat.zero_mul], hb, hh, hnc, by rw [Nat.zero_add]; exact hcm, by rw [Nat.zero_add]; exact hcs, by rw [Nat.zero_mul, List.drop_zero]; exact ht⟩
theorem qiR {g : Nat} : ∀ (vs : List Value) (o : Nat) {w : World} (k : Nat), k ≠ g → (w.setCells g o vs).heap[k]? = w.heap[k]?
 | [], _, _, _, _ => rfl
 | v :: r, o, w, k, hk => by
  rw [World.setCells, qiR r (o + 1) k hk]
  exact Below.heap_setCell w ⟨g, o, none⟩ v k hk
theorem qkc (g : Nat) : ∀ (vs : List Value) (o : Nat) (w : World), (w.setCells g o vs).os = w.os ∧ (w.setCells g o vs).tape = w.tape ∧ (w.setCells g o vs).output = w.output ∧ (w.setCells g o vs).heap.size = w.heap.size
 | [], _, _ => ⟨rfl, rfl, rfl, rfl⟩
 | v :: r, o, w => by
  obtain ⟨h1, h2, h3, h4⟩ := qkc g r (o + 1) (w.setCell ⟨g, o, none⟩ v)
  rw [World.setCells]
  exact ⟨h1, h2, h3, by rw [h4]; simp [World.setCell]⟩
theorem qko {g : Nat} {e : TypeId} : ∀ (vs : List Value) (o : Nat) (w : World) (cur : Array Value), w.heap[g]? = some (.cells cur e (0, 0)) → o + vs.length ≤ cur.size →
  ∃ cur', (w.setCells g o vs).heap[g]? = some (.cells cur' e (0, 0)) ∧ cur'.size = cur.size ∧ cur'.toList = cur.toList.take o ++ vs ++ cur.toList.drop (o + vs.length)
 | [], o, w, cur, h, _ => ⟨cur, h, rfl, by simp⟩
 | v :: r, o, w, cur, h, hl => by
  have h2 := qoE h o v
  simp only [List.length_cons] at hl
  obtain ⟨cur', h3, h4, h5⟩ := qko r (o + 1) (w.setCell ⟨g, o, none⟩ v) _ h2 (by simp; omega)
  refine ⟨cur', h3, by rw [h4]; simp, ?_⟩
  rw [h5, Array.toList_setIfInBounds]
  have ho : o < cur.toList.length := by rw [Array.length_toList]; omega
  rw [List.take_set, List.drop_set_of_lt (by omega)]
  simp only [List.length_cons]
  rw [show o + 1 + r.length = o + (r.length + 1) by omega]
  congr 1
  rw [List.take_succ_eq_append_getElem ho, List.set_append_right _ _ (by rw [List.length_take]; omega)]
  have ho' : o < cur.size := by omega
  simp [Nat.min_eq_left (Nat.le_of_lt ho')]
end
namespace Kd
theorem qqm {α : Type} {R : α → List Value → Prop} {size m : Nat} {ps : List α} {cs : List Value} (h : Reps R size ps cs) (hm : m ≤ ps.length) : Reps R size (ps.take m) (cs.take (m * size)) := by
 refine ⟨by rw [List.length_take, List.length_take, h.1, Nat.min_eq_left hm, Nat.min_eq_left (Nat.mul_le_mul_right _ hm)], fun j p hj => ?_⟩
 rw [List.getElem?_take] at hj
 split at hj
 ·
  rename_i hjm
  have := h.2 j p hj
  have hle : j * size + size ≤ m * size := by rw [← Nat.succ_mul]; exact Nat.mul_le_mul_right _ hjm
  rw [List.drop_take, List.take_take, Nat.min_eq_left (by omega)]
  exact this
 cases hj
theorem R_take {α : Type} {d : Kd α} {e m n c : Nat} {w : World} {base : Nat} {ok : Nat → Prop} {A : Option Addr} {xs : List α} (h : d.R e w base ok (.slice A n c) xs) (hm : m ≤ xs.length) : d.R e w base ok (.slice A m c) (xs.take m) := by
 obtain ⟨h0, inner, ho, hr⟩ := h
 have hn : n = xs.length := by
  obtain ⟨A', c', he⟩ := qqh ho
  injection he
 subst hn
 have hb : ∀ x y : Nat, (Value.slice A x c).ownBlock = (Value.slice A y c).ownBlock := by
  intro x y
  cases A <;> rfl
 refine ⟨fun k hk => h0 k (by rw [hb _ m]; exact hk), inner.take (m * d.sz), ?_, ?_⟩
 ·
  rw [List.length_take, Nat.min_eq_left hm]
  exact qqJ ho hm
 rw [hb m xs.length]
 exact qqm hr hm
def Q {α : Type} (d : Kd α) (e : Nat) (w : World) (base : Nat) (ok : Nat → Prop) (v : Value) (xs : List α) : Prop :=
 (∀ k, v.ownBlock = some k → ok k) ∧ ∃ inner, QRow w base e d.sz v xs.length inner ∧ Reps (d.M w base (fun k => ok k ∧ some k ≠ v.ownBlock)) d.sz xs inner
section
variable {α : Type} {d : Kd α} {e : Nat} {w w1 W : World} {base : Nat} {ok ok' : Nat → Prop} {v : Value} {xs : List α}
theorem qtx (h : d.R e w base ok v xs) : d.Q e w base ok v xs := by
 obtain ⟨h0, inner, ho, hr⟩ := h
 exact ⟨h0, inner, qqK ho, hr⟩
theorem Q_nil (d : Kd α) (e : Nat) (w : World) (base : Nat) (ok : Nat → Prop) : d.Q e w base ok (.slice none 0 0) [] := qtx (R_nil d e w base ok)
end
end Kd
namespace Kd
section
variable {α : Type} {d : Kd α} {e e' : Nat} {w w1 W : World} {base : Nat} {ok : Nat → Prop} {u v : Value} {xs : List α}
theorem R_typed (h : d.R e w base ok v xs) : ∀ k, v.ownBlock = some k → ∃ cells, w.heap[k]? = some (.cells cells e (0, 0)) := by
 obtain ⟨inner, ho⟩ := qnD h
 exact fun k hk => qgg ho k hk
theorem R_apart' (h : d.R e W base ok u xs) (hty : ∀ k, v.ownBlock = some k → ∃ cells, W.heap[k]? = some (.cells cells e' (0, 0))) (ht : ∀ q, q ∈ e :: d.E → q ≠ e') : d.R e W base (fun k => ok k ∧ some k ≠ v.ownBlock) u xs := by
 refine R_mono (R_bound h) (fun k hk => ⟨hk.1, fun he => ?_⟩)
 obtain ⟨_, _, _, q, hq, cells, hc⟩ := hk
 obtain ⟨cells', hc'⟩ := hty k he.symm
 rw [hc] at hc'
 injection hc' with hc'
 injection hc' with _ hc'
 exact ht q hq hc'
theorem R_elder' (hu : d.R e W base ok u xs) (hbase : ∀ k, v.ownBlock = some k → W.heap.size ≤ k) (hb : Below W.heap.size W w1) : d.R e w1 base (fun k => ok k ∧ some k ≠ v.ownBlock) u xs :=
 R_mono (R_move (R_bound hu) (fun k hk => hb.block k hk.2.2.1)) (fun k hk => ⟨hk.1, fun he => by have := hbase k he.symm; have := hk.2.2.1; omega⟩)
theorem R_new' (h : d.R e w1 W.heap.size ok v xs) (hlt : ∀ k, u.ownBlock = some k → k < W.heap.size) : d.R e w1 W.heap.size (fun k => ok k ∧ some k ≠ u.ownBlock) v xs :=
 R_mono (R_bound h) (fun k hk => ⟨hk.1, fun he => by have := hlt k he.symm; have := hk.2.1; omega⟩)
theorem fresh' (hlt : ∀ k, u.ownBlock = some k → k < W.heap.size) : ∀ k, W.heap.size ≤ k → some k ≠ u.ownBlock := fun k hk he => by have := hlt k he.symm; omega
end
end Kd
theorem qjQ {α : Type} (a seg : List α) (o : Nat) (h : o + seg.length ≤ a.length) (q : Nat) :
  (a.take o ++ seg ++ a.drop (o + seg.length))[q]? = if q < o then a[q]? else if q < o + seg.length then seg[q - o]? else a[q]? := by
 have hl : (a.take o).length = o := by rw [List.length_take]; omega
 rw [List.append_assoc]
 by_cases h1 : q < o
 ·
  rw [if_pos h1, List.getElem?_append_left (by omega), List.getElem?_take, if_pos h1]
 rw [if_neg h1, List.getElem?_append_right (by omega), hl]
 by_cases h2 : q < o + seg.length
 ·
  rw [if_pos h2, List.getElem?_append_left (by omega)]
 rw [if_neg h2, List.getElem?_append_right (by omega), List.getElem?_drop]
 congr 1
 omega
namespace Kd
section
variable {α : Type} {d : Kd α} {e base g n cap : Nat} {ok okp : Nat → Prop} {W : World} {xs : List α}
theorem R_elem (h : d.R e W base ok (.slice (some ⟨g, 0, none⟩) n cap) xs) (z : α) (i : Int) (h0 : 0 ≤ i) (h1 : i < n) :
  ∃ c, c.length = d.sz ∧ d.M W base (fun k => ok k ∧ k ≠ g) (xs.getD i.toNat z) c ∧ (∀ j u, c[j]? = some u → W.cell? ⟨g, i.toNat * d.sz + j, none⟩ = some u) ∧ ∀ j, W.frozen? ⟨g, i.toNat * d.sz + j, none⟩ = false := by
 obtain ⟨hn, hnc, hC⟩ := R_reads' h
 obtain ⟨_, inner, ho, hr⟩ := h
 have hil : i.toNat < xs.length := by omega
 have hseg : i.toNat * d.sz + d.sz ≤ inner.length := by rw [hr.1, ← Nat.succ_mul]; exact Nat.mul_le_mul_right _ hil
 have hM := hr.2 i.toNat _ (List.getElem?_eq_getElem hil)
 refine ⟨(inner.drop (i.toNat * d.sz)).take d.sz, by rw [List.length_take, List.length_drop]; omega, ?_, fun j u hu => ?_, fun j => ?_⟩
 ·
  rw [List.getD_eq_getElem?_getD, List.getElem?_eq_getElem hil]
  exact d.M_mono (fun k hk => ⟨hk.1, fun he => hk.2 (by rw [he]; simp [Value.ownBlock])⟩) hM
 ·
  rw [List.getElem?_take] at hu
  split at hu
  ·
   rw [List.getElem?_drop] at hu
   have := ho.cells (g := g) (by simp [Value.ownBlock]) _ u hu
   rwa [qid] at this
  cases hu
 obtain ⟨cells, hc⟩ := qgg ho g (by simp [Value.ownBlock])
 exact qaj hc _
theorem que (h : d.R e W base ok (.slice (some ⟨g, 0, none⟩) n cap) xs) (i : Int) (h0 : 0 ≤ i) (h1 : i < n) {c seg : List Value} {j : Nat} (hcl : c.length = d.sz) (hcc : ∀ j u, c[j]? = some u → W.cell? ⟨g, i.toNat * d.sz + j, none⟩ = some u)
  (hj : j + seg.length ≤ d.sz) {x' : α} (hM : d.M W base okp x' (c.take j ++ seg ++ c.drop (j + seg.length))) (hokp : ∀ k, okp k → ok k ∧ k ≠ g) :
  d.R e (W.setCells g (i.toNat * d.sz + j) seg) base ok (.slice (some ⟨g, 0, none⟩) n cap) (xs.set i.toNat x') ∧ W.grownBy (W.setCells g (i.toNat * d.sz + j) seg) (some g) := by
 obtain ⟨hn, hnc, _⟩ := R_reads' h
 obtain ⟨hok, inner, ho, hr⟩ := h
 have hil : i.toNat < xs.length := by omega
 have hseg : i.toNat * d.sz + d.sz ≤ inner.length := by rw [hr.1, ← Nat.succ_mul]; exact Nat.mul_le_mul_right _ hil
 have hin : inner.length = n * d.sz := by rw [hr.1, hn]
 obtain ⟨ho1, ho2⟩ := ho
 rcases ho2 with ⟨hv, _⟩ | ⟨g', cap', cur, hv, hb, hh, hnc', hcm, hcs, ht⟩
 ·
  cases hv
 injection hv with ha _ hc
 injection ha with ha
 injection ha with hg
 subst hg; subst hc
 have hfit : i.toNat * d.sz + j + seg.length ≤ cur.size := by
  have : n * d.sz ≤ cap * d.sz := Nat.mul_le_mul_right _ hnc
  omega
 obtain ⟨cur', h3, h4, h5⟩ := qko seg (i.toNat * d.sz + j) W cur hh hfit
 obtain ⟨s1, s2, s3, s4⟩ := qkc g seg (i.toNat * d.sz + j) W
 have hfar : ∀ k, k ≠ g → (W.setCells g (i.toNat * d.sz + j) seg).heap[k]? = W.heap[k]? := fun k hk => qiR seg _ k hk
 have hcin : ∀ q, q < d.sz → c[q]? = inner[i.toNat * d.sz + q]? := by
  intro q hq
  have hq' : q < c.length := by omega
  have h6 := hcc q _ (List.getElem?_eq_getElem hq')
  rw [cell_of_row W g _ cur e (0, 0) hh] at h6
  rw [List.getElem?_eq_getElem hq', ← h6, ← ht, List.getElem?_take, if_pos (by rw [← hn]; omega), Array.getElem?_toList]
 refine ⟨⟨hok, inner.take (i.toNat * d.sz + j) ++ seg ++ inner.drop (i.toNat * d.sz + j + seg.length), ⟨?_, .inr ⟨g, cap, cur', by rw [List.length_set, hn], hb, h3, by rw [List.length_set, ← hn]; exact hnc, hcm, by rw [h4, hcs], ?_⟩⟩, ?_⟩,
  ⟨s1, s2, s3, by rw [s4]; exact Nat.le_refl _, fun k _ hk => hfar k (fun he => hk (by rw [he]))⟩⟩
 ·
  rw [List.length_set]
  simp only [List.length_append, List.length_take, List.length_drop]
  rw [hr.1] at hseg ⊢
  omega
 ·
  rw [List.length_set, ← hn]
  apply List.ext_getElem?
  intro q
  rw [List.getElem?_take, h5]
  rw [qjQ cur.toList seg (i.toNat * d.sz + j) (by rw [Array.length_toList]; omega) q, qjQ inner seg (i.toNat * d.sz + j) (by omega) q]
  have hcur : ∀ q, q < n * d.sz → cur.toList[q]? = inner[q]? := by
   intro q hq
   rw [← ht, List.getElem?_take, if_pos (by rw [← hn]; exact hq)]
  by_cases hq : q < n * d.sz
  ·
   rw [if_pos hq, hcur q hq]
  rw [if_neg hq, if_neg (by omega), if_neg (by omega), List.getElem?_eq_none (by omega)]
 refine ⟨?_, fun m p hm => ?_⟩
 ·
  rw [List.length_set]
  simp only [List.length_append, List.length_take, List.length_drop]
  rw [hr.1] at hseg ⊢
  omega
 have hml : m < xs.length := by
  have := (List.getElem?_eq_some_iff.1 hm).1
  rwa [List.length_set] at this
 have hmfit : m * d.sz + d.sz ≤ inner.length := by rw [hr.1, ← Nat.succ_mul]; exact Nat.mul_le_mul_right _ hml
 have hgo : some g = (Value.slice (some ⟨g, 0, none⟩) n cap).ownBlock := by simp [Value.ownBlock]
 by_cases hmi : m = i.toNat
 ·
  subst hmi
  rw [List.getElem?_set_self (by omega)] at hm
  injection hm with hm
  subst hm
  have hcells : ((inner.take (i.toNat * d.sz + j) ++ seg ++ inner.drop (i.toNat * d.sz + j + seg.length)).drop (i.toNat * d.sz)).take d.sz = c.take j ++ seg ++ c.drop (j + seg.length) := by
   apply List.ext_getElem?
   intro q
   rw [List.getElem?_take, List.getElem?_drop, qjQ inner seg _ (by omega), qjQ c seg j (by omega) q]
   by_cases hq : q < d.sz
   ·
    rw [if_pos hq, hcin q hq]
    by_cases hq1 : q < j
    ·
     rw [if_pos (by omega), if_pos hq1]
    rw [if_neg (by omega), if_neg hq1]
    by_cases hq2 : q < j + seg.length
    ·
     rw [if_pos (by omega), if_pos hq2]
     congr 1
     omega
    rw [if_neg (by omega), if_neg hq2]
   rw [if_neg hq, if_neg (by omega), if_neg (by omega), List.getElem?_eq_none (by omega)]
  rw [hcells]
  refine d.M_mono (fun k hk => ?_) (d.M_move (w1 := W.setCells g (i.toNat * d.sz + j) seg) (fun k hk => hfar k (hokp k hk).2) hM)
  exact ⟨(hokp k hk).1, fun he => (hokp k hk).2 (by rw [← hgo] at he; injection he)⟩
 rw [List.getElem?_set_ne (by omega)] at hm
 have hold := hr.2 m p hm
 have hcells : ((inner.take (i.toNat * d.sz + j) ++ seg ++ inner.drop (i.toNat * d.sz + j + seg.length)).drop (m * d.sz)).take d.sz = (inner.drop (m * d.sz)).take d.sz := by
  apply List.ext_getElem?
  intro q
  rw [List.getElem?_take, List.getElem?_take, List.getElem?_drop, List.getElem?_drop, qjQ inner seg _ (by omega)]
  by_cases hq : q < d.sz
  ·
   rw [if_pos hq, if_pos hq]
   rcases Nat.lt_or_gt_of_ne hmi with hlt | hgt
   ·
    have : m * d.sz + d.sz ≤ i.toNat * d.sz := by rw [← Nat.succ_mul]; exact Nat.mul_le_mul_right _ hlt
    rw [if_pos (by omega)]
   have : i.toNat * d.sz + d.sz ≤ m * d.sz := by rw [← Nat.succ_mul]; exact Nat.mul_le_mul_right _ hgt
   rw [if_neg (by omega), if_neg (by omega)]
  rw [if_neg hq, if_neg hq]
 rw [hcells]
 refine d.M_move (fun k hk => hfar k (fun he => hk.2 (by rw [he]; exact hgo))) hold
end
end Kd
namespace Kd
def quC {α : Type} (d : Kd α) (w0 : World) : Kd α where
 sz := d.sz
 E := []
 K := fun _ x cs => d.K w0 x cs
 M := fun _ _ _ x cs => d.K w0 x cs
 K_len := d.K_len
 K_one := d.K_one
 K_below := fun _ h => h
 K_of_M := fun h => h
 M_mono := fun _ h => h
 M_bound := fun h => h
 M_move := fun _ h => h
 M_lower := fun _ h => h
def or_ {α : Type} (a b : Kd α) (h : b.sz = a.sz) : Kd α where
 sz := a.sz
 E := a.E ++ b.E
 K := fun w x cs => a.K w x cs ∨ b.K w x cs
 M := fun w base ok x cs => a.M w base ok x cs ∨ b.M w base ok x cs
 K_len := fun hk => hk.elim a.K_len (fun hk => (b.K_len hk).trans h)
 K_one := fun hk => hk.elim a.K_one b.K_one
 K_below := fun hb hk => hk.imp (a.K_below hb) (b.K_below hb)
 K_of_M := fun hk => hk.imp a.K_of_M b.K_of_M
 M_mono := fun hok hk => hk.imp (a.M_mono hok) (b.M_mono hok)
 M_bound := fun hk => hk.imp
  (fun hk => a.M_mono (fun _ ⟨h1, h2, h3, q, hq, hc⟩ => ⟨h1, h2, h3, q, List.mem_append_left _ hq, hc⟩) (a.M_bound hk))
  (fun hk => b.M_mono (fun _ ⟨h1, h2, h3, q, hq, hc⟩ => ⟨h1, h2, h3, q, List.mem_append_right _ hq, hc⟩) (b.M_bound hk))
 M_move := fun hm hk => hk.imp (a.M_move hm) (b.M_move hm)
 M_lower := fun hb hk => hk.imp (a.M_lower hb) (b.M_lower hb)
def mix {α : Type} (e : Nat) (d dm : Kd α) (w0 : World) : Kd (List α) := or_ (quC (slice e d) w0) (slice e dm) rfl
end Kd
theorem qnn {P : Program} {w : World} {g o : Nat} {e : TypeId} {cur : Array Value} (t : TypeId) (u : Value) (seg : List Value) (hh : w.heap[g]? = some (.cells cur e (0, 0))) (hu : u.cells.toList = seg) (ht : (P.info? t).map (·.size) = some seg.length)
  (hfit : o + seg.length ≤ cur.size) (h1 : ∀ q ∈ seg, q.oneCell' = true) : (Instr.storeAt t (.pointer (some ⟨g, o, none⟩)) u).run P w = .ok () (w.setCells g o seg) := by
 obtain ⟨i, hi, hsz⟩ := Option.map_eq_some_iff.1 ht
 have hc : u.cells.size = i.size := by rw [hsz, ← hu, Array.length_toList]
 have hst := run_storeCells_cells (P := P) g o seg 0 w (fun j hj => by rw [cell_of_row w g _ cur e (0, 0) hh]; simp; omega) (fun j _ => qaj hh _) h1
 simp only [Nat.add_zero] at hst
 simp [Instr.storeAt, Instr.sureAddr, storeVar, sizeOf, typeInfo, hi, hc, hu, hst]
theorem quD {P : Program} {ops : Array Oper} {rest : List Oper} {o : Oper} {a : Act} {Q : Exit → Act → World → Prop} {W : World} (op : Op) (_ho : o.op = op) (h : wpList P ops Q (o :: rest) a W) : wpList P ops Q (o :: rest) a W := h
namespace Kd
section
variable {P : Program} {ops : Array Oper} {rest : List Oper} {o : Oper} {a : Act} {Q : Exit → Act → World → Prop} {α : Type}
theorem R_store (d : Kd α) {w0 W : World} (base : Nat) (hN : o.dst = none) (hgd : o.guard = none) (t : TypeId) (p x : Operand) (ho : o.op = .store t p x) (e : TypeId) {g n cap o' : Nat} (i : Int) (j : Nat) (xs : List α) (x' : α) (u : Value) (seg c : List Value) (ok okp : Nat → Prop)
  (haddr : a.eval p = .pointer (some ⟨g, o', none⟩)) (hoff : o' = i.toNat * d.sz + j) (hx : a.eval x = u) (hu : u.cells.toList = seg) (ht : (P.info? t).map (·.size) = some seg.length) (h1 : ∀ q ∈ seg, q.oneCell' = true)
  (HO : d.R e W base ok (.slice (some ⟨g, 0, none⟩) n cap) xs) (h0 : 0 ≤ i) (hi : i < n) (hcl : c.length = d.sz) (hcc : ∀ j u, c[j]? = some u → W.cell? ⟨g, i.toNat * d.sz + j, none⟩ = some u)
  (hj : j + seg.length ≤ d.sz) (hM : d.M W base okp x' (c.take j ++ seg ++ c.drop (j + seg.length))) (hokp : ∀ k, okp k → ok k ∧ k ≠ g) (HB : Below base w0 W)
  (h : ∀ w1, d.R e w1 base ok (.slice (some ⟨g, 0, none⟩) n cap) (xs.set i.toNat x') → Below base w0 w1 → W.grownBy w1 (some g) → wpList P ops Q rest a w1) : wpList P ops Q (o :: rest) a W := by
 subst hoff
 obtain ⟨hrow, hg⟩ := que HO i h0 hi hcl hcc hj hM hokp
 have hbg : base ≤ g := R_base HO g (by simp [Value.ownBlock])
 have hnx : n = xs.length := (R_reads' HO).1
 obtain ⟨_, inner, hown, hr⟩ := HO
 have hil : i.toNat < n := by omega
 have hB : Below base w0 (W.setCells g (i.toNat * d.sz + j) seg) := HB.trans ⟨hg.os, hg.tape, hg.output, hg.size, fun k hk => by
  have hlt : k < W.heap.size ∨ W.heap.size ≤ k := Nat.lt_or_ge _ _
  rcases hlt with hlt | hge
  ·
   exact hg.block k hlt (fun he => by injection he with he; omega)
  exact qiR seg _ k (by omega)⟩
 refine wpList_plain hgd fun K hK => ?_
 have hrun : (Instr.storeAt t (.pointer (some ⟨g, i.toNat * d.sz + j, none⟩)) u).run P W = .ok () (W.setCells g (i.toNat * d.sz + j) seg) := by
  rcases hown.2 with ⟨hv, _⟩ | ⟨g', cap', cur, hv, hb, hh, hnc, hcm, hcs, _⟩
  ·
   cases hv
  injection hv with ha _ hc
  injection ha with ha
  injection ha with hg'
  subst hg'; subst hc
  refine qnn t u seg hh hu ht ?_ h1
  have h2 : i.toNat * d.sz + d.sz ≤ n * d.sz := by rw [← Nat.succ_mul]; exact Nat.mul_le_mul_right _ hil
  have h3 : n * d.sz ≤ cap * d.sz := Nat.mul_le_mul_right _ (by omega)
  omega
 unfold Oper.wp execOp
 simp only [ho, haddr, hx, Sem.run_bind, Sem.run_pure, Result.andThen_ok, hrun]
 show K (a.put o.dst undef) _
 rw [hN]
 exact hK a _ (h _ hrow hB hg)
end
end Kd
theorem add_add (a : Addr) (i j : Nat) : (a.add i).add j = a.add (i + j) := by
 unfold Addr.add
 by_cases h1 : i = 0 <;> by_cases h2 : j = 0 <;> simp [h1, h2, Nat.add_assoc]
theorem qav {w W : World} (h : Below w.heap.size w W) : w.heap.size ≤ W.heap.size := h.size
theorem qaA {w W w2 : World} (h : Below w.heap.size w W) (k : Below W.heap.size W w2) : Below w.heap.size w w2 := qpv h h.size k
theorem qaf {w W : World} {g j : Nat} {v : Value} (h : Below w.heap.size w W) (hg : w.heap.size ≤ g) : Below w.heap.size w (W.setCell ⟨g, j, none⟩ v) := h.setCell hg _
theorem qve {w W : World} {g : Nat} (h : qrM w W g none) {a : Addr} {v : Value} (hc : w.cell? a = some v) (hne : a.block ≠ g) : W.cell? a = some v := by
 have := h.2 a.block (World.block_lt_of_cell? w a hc) hne (by simp)
 simpa [World.cell?, this] using hc
theorem qay (a : Addr) (i : Nat) : (a.add i).block = a.block := by unfold Addr.add; split <;> rfl
theorem qaz {W : World} {p a : Addr} (h : a.block ≠ p.block) (u : Value) : (W.setCell p u).cell? a = W.cell? a := by
 have := Below.heap_setCell W p u a.block h
 simp [World.cell?, this]
theorem qaH {w : World} {g : Nat} {t : TypeId} {cs cs' : Array Value} (h : w.heap[g]? = some (.cells cs t (0, 0))) (i : Nat) (u : Value) (e : cs.setIfInBounds i u = cs') : (w.setCell ⟨g, i, none⟩ u).heap[g]? = some (.cells cs' t (0, 0)) := e ▸ qoE h i u
theorem qah {base : Nat} {w W : World} (h : Below base w W) : Below base w W.drew := h.drew
namespace Kd
section
variable {α : Type} {d : Kd α} {e base g : Nat} {ok : Nat → Prop} {w w1 : World} {v : Value} {xs : List α} {o : Obj}
theorem freshB (hb : w.heap[g]? = some o) : ∀ k, w.heap.size ≤ k → k ≠ g := fun k hk => by have := qaN hb; omega
end
end Kd
section
variable {P : Program} {ops : Array Oper} {rest : List Oper} {o : Oper} {a : Act} {Q : Exit → Act → World → Prop}
theorem qbq {W : World} (hgd : o.guard = none) {N : Tmp} (_hd : o.dst = some N) {cs : Array Value} {t : TypeId}
  (hrun : (execOp a.eval o).run P W = .ok (.value (.pointer (some ⟨W.heap.size, 0, none⟩))) (W.alloc (.cells cs t (0, 0))))
  (h : ∀ g, g = W.heap.size → ∀ w1, w1.heap[g]? = some (.cells cs t (0, 0)) → Below W.heap.size W w1 → wpList P ops Q rest (a.put o.dst (.pointer (some ⟨g, 0, none⟩))) w1) : wpList P ops Q (o :: rest) a W :=
 Kd.event_run hgd hrun (h _ rfl _ (qgR W _) (qag (Below.refl _ _) _))
end
namespace Kd
section
variable {α : Type} {enc : α → Value} {h1 : ∀ x, (enc x).oneCell' = true} {e base g n cap : Nat} {ok : Nat → Prop} {W : World} {xs : List α}
theorem R_putg (h : (scalar enc h1).R e W base ok (.slice (some ⟨g, 0, none⟩) n cap) xs) (i : Int) (x : α) : (scalar enc h1).R e (W.setCell ⟨g, i.toNat, none⟩ (enc x)) base ok (.slice (some ⟨g, 0, none⟩) n cap) (xs.set i.toNat x) ∧ W.grownBy (W.setCell ⟨g, i.toNat, none⟩ (enc x)) (some g) := by
 obtain ⟨rfl, _⟩ := R_reads' h
 exact qud h i x
end
end Kd
section
variable {P : Program} {ops : Array Oper} {rest : List Oper} {o : Oper} {a : Act} {Q : Exit → Act → World → Prop} {W : World}
theorem qa1 {N : Tmp} (_hN : o.dst = some N) (h : wpList P ops Q (o :: rest) a W) : wpList P ops Q (o :: rest) a W := h
end
section
variable {P : Program} {ops : Array Oper} {o : Oper} {a : Act} {Q : Exit → Act → World → Prop} {Kc : Act → World → Prop}
theorem qpx {W w1 : World} {v : Value} (hw : Region.wanted o (yielded ops a.tmps) = true) (hrun : (execOp a.eval o).run P W = .ok (.value v) w1) (h : Kc (a.put o.dst v) w1) : if Region.wanted o (yielded ops a.tmps) = true then Oper.wp P o a W Kc Q else Kc (a.put o.dst undef) W := by
 rw [if_pos hw]
 unfold Oper.wp
 rw [hrun]
 exact h
theorem qj0 {W : World} (hw : Region.wanted o (yielded ops a.tmps) = true) {N : Tmp} (_hd : o.dst = some N) {cs : Array Value} {t : TypeId}
  (hrun : (execOp a.eval o).run P W = .ok (.value (.pointer (some ⟨W.heap.size, 0, none⟩))) (W.alloc (.cells cs t (0, 0))))
  (h : ∀ g, g = W.heap.size → ∀ w1, w1.heap[g]? = some (.cells cs t (0, 0)) → Below W.heap.size W w1 → Kc (a.put o.dst (.pointer (some ⟨g, 0, none⟩))) w1) : if Region.wanted o (yielded ops a.tmps) = true then Oper.wp P o a W Kc Q else Kc (a.put o.dst undef) W :=
 qpx hw hrun (h _ rfl _ (qgR W _) (qag (Below.refl _ _) _))
end
inductive Vals (P : Program) (tmps : Array Value) (w : World) : List ResultVar → List Value → Prop where
 | nil : Vals P tmps w [] []
 | tmp {u : Tmp} {rs : List ResultVar} {vs : List Value} (h : Vals P tmps w rs vs) : Vals P tmps w (.tmp u :: rs) (tmps.getD u undef :: vs)
 | cell {p : Tmp} {ty : TypeId} {rs : List ResultVar} {vs : List Value} (g : Nat) (t : TypeId) (cs : Array Value) (fr : Nat × Nat) (d : TypeDesc)
   (hp : tmps.getD p undef = .pointer (some ⟨g, 0, none⟩)) (hg : w.heap[g]? = some (.cells cs t fr))
   (hu : P.underlying ty = some d) (hd : (match d with | .struct _ | .array _ _ => true | _ => false) = true) (hi : (P.info? ty).map (·.size) = some cs.size)
   (h : Vals P tmps w rs vs) : Vals P tmps w (.cell p ty :: rs) (.agg cs :: vs)
section
variable {P : Program} {tmps : Array Value} {w : World}
theorem qqP {rs : List ResultVar} {vs : List Value} (hv : Vals P tmps w rs vs) (f : ResultVar → Sem Value) (hf : ∀ u, f (.tmp u) = pure (tmps.getD u undef)) (hc : ∀ a t, f (.cell a t) = (do loadVar t (← asAddr (tmps.getD a undef)))) :
  (rs.mapM f).run P w = .ok vs w := by
 induction hv with
 | nil => simp
 | tmp h ih => simp [List.mapM_cons, hf, ih]
 | cell g t cs fr d hp hg hu hd hi h ih =>
  rw [List.mapM_cons, hc, hp]
  simp [asAddr, run_loadVar_row w g t _ cs fr d hg hu hd hi, ih]
theorem qhI {fn : Func} {rs : List ResultVar} {vs : List Value} (h : fn.results = rs.toArray) (hl : vs.length ≠ 1) (hv : Vals P tmps w rs vs) : (results fn tmps).run P w = .ok (.tuple vs.toArray) w := by
 unfold results
 rw [h, List.mapM_toArray]
 simp only [Sem.run_bind, Sem.run_map]
 rw [qqP hv]
 ·
  simp [hl]
 ·
  intro u
  rfl
 intro a t
 rfl
end
end Go.Proofs.YtmhomdohhihlcaaW.PrintWords
namespace Go.Proofs.YtmhomdohhihlcaaW.PrintLast
section
variable {P : Program} {ops : Array Oper} {Q : Exit → Act → World → Prop} {md : Region.Mode} {S : World → Prop} {ds : List Nat}
def Region.reachB (md : Region.Mode) (ops : Array Oper) (i : Nat) : Nat → Nat → Bool
 | 0, _ => false
 | fuel + 1, d => match ops[d]? with
  | some o => o.after.any fun e => Region.binds md e && (e.on == i || Region.reachB md ops i fuel e.on)
  | none => false
def Region.closedB (md : Region.Mode) (ops : Array Oper) (listed : Array Bool) : Bool :=
 (List.range ops.size).all fun j => !listed.getD j false || match ops[j]? with
  | some o => o.after.all fun e => !Region.binds md e || listed.getD e.on false
  | none => true
def Region.lastB (md : Region.Mode) (ops : Array Oper) (listed : Array Bool) (ds : List Nat) (i : Nat) : Bool :=
 ds.all fun d => listed.getD d true || Region.reachB md ops i ops.size d
def qeZ (md : Region.Mode) (ops : Array Oper) (listed : Array Bool) : Prop :=
 ∀ j oj, ops[j]? = some oj → listed.getD j false = true → ∀ e ∈ oj.after, Region.binds md e = true → listed.getD e.on false = true
theorem Region.closedB_spec {listed : Array Bool} (h : Region.closedB md ops listed = true) : qeZ md ops listed := by
 intro j oj hj hl e he hb
 have hlt : j < ops.size := (Array.getElem?_eq_some_iff.1 hj).1
 have h1 := List.all_eq_true.1 h j (List.mem_range.2 hlt)
 simp only [hl, hj, Bool.not_true, Bool.false_or] at h1
 have h2 := Array.all_eq_true_iff_forall_mem.1 h1 e he
 simpa [hb] using h2
theorem qeZ.set {listed : Array Bool} {i : Nat} (h : qeZ md ops listed) (hi : i ∈ Region.ready md ops listed) : qeZ md ops (listed.setIfInBounds i true) := by
 obtain ⟨_, oi, hoi, hall⟩ := mem_ready.1 hi
 intro j oj hj hl e he hb
 by_cases hij : i = j
 ·
  subst hij
  have : oj = oi := Option.some.inj (hj.symm.trans hoi)
  subst this
  exact getD_set_true (hall e he hb)
 rw [getD_set_ne false hij] at hl
 exact getD_set_true (h j oj hj hl e he hb)
theorem Region.reach_listed {listed : Array Bool} {i : Nat} (hc : qeZ md ops listed) : ∀ (fuel d : Nat), Region.reachB md ops i fuel d = true → listed.getD d false = true → listed.getD i false = true
 | 0, _, h, _ => by simp [Region.reachB] at h
 | fuel + 1, d, h, hl => by
  unfold Region.reachB at h
  cases ho : ops[d]? with
  | none => rw [ho] at h; simp at h
  | some o =>
   rw [ho] at h
   obtain ⟨e, he, h1⟩ := Array.any_eq_true'.1 h
   simp only [Bool.and_eq_true, Bool.or_eq_true, beq_iff_eq] at h1
   have hle := hc d o ho hl e he h1.1
   rcases h1.2 with h2 | h2
   ·
    rw [← h2]; exact hle
   exact Region.reach_listed hc fuel e.on h2 hle
theorem Region.reach_not_ready {listed : Array Bool} {i d fuel : Nat} (hc : qeZ md ops listed) (hr : Region.reachB md ops i fuel d = true) (hun : listed.getD i true = false) : d ∉ Region.ready md ops listed := by
 intro hd
 obtain ⟨_, o, ho, hall⟩ := mem_ready.1 hd
 have hi : listed.getD i false = true := by
  cases fuel with
  | zero => simp [Region.reachB] at hr
  | succ n =>
   unfold Region.reachB at hr
   rw [ho] at hr
   obtain ⟨e, he, h1⟩ := Array.any_eq_true'.1 hr
   simp only [Bool.and_eq_true, Bool.or_eq_true, beq_iff_eq] at h1
   have hle := hall e he h1.1
   rcases h1.2 with h2 | h2
   ·
    rw [← h2]; exact hle
   exact Region.reach_listed hc n e.on h2 hle
 rcases Nat.lt_or_ge i listed.size with h' | h'
 ·
  simp [h'] at hun hi
  rw [hun] at hi
  cases hi
 simp [Array.getElem?_eq_none h'] at hun
def qbK (P : Program) (md : Region.Mode) (ops : Array Oper) (Q : Exit → Act → World → Prop) (S : World → Prop) (ds : List Nat) : Nat → Array Bool → Act → World → Prop
 | 0, listed, a, w => Region.ready md ops listed = [] ∧ Q .normal a w
 | fuel + 1, listed, a, w =>
  (Region.ready md ops listed = [] → Q .normal a w) ∧
  ∀ i ∈ Region.ready md ops listed, wpOp P ops Q i (fun a' w' => (i ∉ ds → S w → S w') ∧ qbK P md ops Q S ds fuel (listed.setIfInBounds i true) a' w') a w
theorem qke : ∀ (fuel : Nat) (listed : Array Bool) (a : Act) (w : World), qbK P md ops Q S ds fuel listed a w → wpAny P md ops Q fuel listed a w
 | 0, _, _, _, h => h
 | fuel + 1, _, _, _, h => ⟨h.1, fun i hi => wpOp_mono (fun a' w' h' => qke fuel _ a' w' h'.2) (h.2 i hi)⟩
theorem qmh {i : Nat} {oi : Oper} {v : Value} (hi : ops[i]? = some oi) (hsel : ∀ (j : Nat) (o : Oper) cs b, ops[j]? = some o → o.op ≠ .select cs b)
  (hQ : ∀ c a w, Q (.panic c) (a.put oi.dst v) w → Q (.panic c) a w) (n : Nat) :
  ∀ (fuel : Nat) (listed : Array Bool) (a : Act) (w : World),
   (∀ j oj, ops[j]? = some oj → j ≠ i → listed.getD j true = false → (∀ e ∈ oj.after, Region.binds md e = true → e.on ≠ i) → oi.apart ops oj = true) →
   qeZ md ops listed → (∀ d ∈ ds, listed.getD d true = false → Region.reachB md ops i n d = true) →
   i ∈ Region.ready md ops listed → YieldsIf P ops S oi v a → S w →
   qbK P md ops Q S ds fuel (listed.setIfInBounds i true) (a.put oi.dst v) w → qbK P md ops Q S ds (fuel + 1) listed a w := by
 intro fuel
 induction fuel with
 | zero =>
  intro listed a w _ _ _ hr hy hS H
  refine ⟨fun h => (by rw [h] at hr; cases hr), fun j hj => ?_⟩
  by_cases hji : j = i
  ·
   subst hji; exact hy.wpOp hi hS ⟨fun _ h => h, H⟩
  have := ready_mono hj hji
  rw [H.1] at this
  cases this
 | succ fuel ih =>
  intro listed a w hfree hc hd hr hy hS H
  refine ⟨fun h => (by rw [h] at hr; cases hr), fun j hj => ?_⟩
  by_cases hji : j = i
  ·
   subst hji; exact hy.wpOp hi hS ⟨fun _ h => h, H⟩
  have h1 := H.2 j (ready_mono hj hji)
  obtain ⟨hjun, oj, hoj, hall⟩ := mem_ready.1 hj
  have hiun := (mem_ready.1 hr).1
  have hnot : ∀ e ∈ oj.after, Region.binds md e = true → e.on ≠ i := fun e he hb heq => by
   have h1 := hall e he hb
   rw [heq] at h1
   rcases Nat.lt_or_ge i listed.size with h' | h'
   ·
    simp [h'] at hiun h1; rw [hiun] at h1; cases h1
   simp [Array.getElem?_eq_none h'] at h1
  have hjd : j ∉ ds := fun hm => Region.reach_not_ready hc (hd j hm hjun) hiun hj
  have h2 := wpOp_putIf hoj (hfree j oj hoj hji hjun hnot) (fun cs b => hsel i oi cs b hi) (fun cs b => hsel j oj cs b hoj) hQ hy h1
  have hfree' : ∀ k ok, ops[k]? = some ok → k ≠ i → (listed.setIfInBounds j true).getD k true = false →
    (∀ e ∈ ok.after, Region.binds md e = true → e.on ≠ i) → oi.apart ops ok = true := fun k ok hk hki hun hno => by
   refine hfree k ok hk hki ?_ hno
   by_cases hjk : j = k
   ·
    subst hjk; exact hjun
   rw [getD_set_ne true hjk] at hun; exact hun
  have hd' : ∀ d ∈ ds, (listed.setIfInBounds j true).getD d true = false → Region.reachB md ops i n d = true := fun d hm hun => by
   refine hd d hm ?_
   by_cases hjk : j = d
   ·
    subst hjk; exact hjun
   rw [getD_set_ne true hjk] at hun; exact hun
  refine wpOp_mono (fun a' w' h3 => ⟨h3.2.1, ih (listed.setIfInBounds j true) a' w' hfree' (hc.set hj) hd' (ready_mono hr (Ne.symm hji)) h3.1 (h3.2.1 hjd hS) ?_⟩) h2
  rw [Array.setIfInBounds_comm _ _ hji]
  exact h3.2.2
theorem qnq {i : Nat} {oi : Oper} {v : Value} (hi : ops[i]? = some oi) (hsel : ∀ (j : Nat) (o : Oper) cs b, ops[j]? = some o → o.op ≠ .select cs b)
  (hQ : ∀ c a w, Q (.panic c) (a.put oi.dst v) w → Q (.panic c) a w) :
  ∀ (fuel : Nat) (listed : Array Bool) (a : Act) (w : World),
   (∀ j oj, ops[j]? = some oj → j ≠ i → listed.getD j true = false → (∀ e ∈ oj.after, Region.binds md e = true → e.on ≠ i) → oi.apart ops oj = true) →
   i ∈ Region.ready md ops listed → Yields P ops oi v a →
   qbK P md ops Q S ds fuel (listed.setIfInBounds i true) (a.put oi.dst v) w → qbK P md ops Q S ds (fuel + 1) listed a w := by
 intro fuel
 induction fuel with
 | zero =>
  intro listed a w _ hr hy H
  refine ⟨fun h => (by rw [h] at hr; cases hr), fun j hj => ?_⟩
  by_cases hji : j = i
  ·
   subst hji; exact (hy.yieldsIf (S := fun _ => True)).wpOp hi trivial ⟨fun _ h => h, H⟩
  have := ready_mono hj hji
  rw [H.1] at this
  cases this
 | succ fuel ih =>
  intro listed a w hfree hr hy H
  refine ⟨fun h => (by rw [h] at hr; cases hr), fun j hj => ?_⟩
  by_cases hji : j = i
  ·
   subst hji; exact (hy.yieldsIf (S := fun _ => True)).wpOp hi trivial ⟨fun _ h => h, H⟩
  have h1 := H.2 j (ready_mono hj hji)
  obtain ⟨hjun, oj, hoj, hall⟩ := mem_ready.1 hj
  have hiun := (mem_ready.1 hr).1
  have hnot : ∀ e ∈ oj.after, Region.binds md e = true → e.on ≠ i := fun e he hb heq => by
   have h1 := hall e he hb
   rw [heq] at h1
   rcases Nat.lt_or_ge i listed.size with h' | h'
   ·
    simp [h'] at hiun h1; rw [hiun] at h1; cases h1
   simp [Array.getElem?_eq_none h'] at h1
  have h2 := wpOp_put hoj (hfree j oj hoj hji hjun hnot) (fun cs b => hsel i oi cs b hi) (fun cs b => hsel j oj cs b hoj) hQ hy h1
  have hfree' : ∀ k ok, ops[k]? = some ok → k ≠ i → (listed.setIfInBounds j true).getD k true = false →
    (∀ e ∈ ok.after, Region.binds md e = true → e.on ≠ i) → oi.apart ops ok = true := fun k ok hk hki hun hno => by
   refine hfree k ok hk hki ?_ hno
   by_cases hjk : j = k
   ·
    subst hjk; exact hjun
   rw [getD_set_ne true hjk] at hun; exact hun
  refine wpOp_mono (fun a' w' h3 => ⟨h3.2.1, ih (listed.setIfInBounds j true) a' w' hfree' (ready_mono hr (Ne.symm hji)) h3.1 ?_⟩) h2
  rw [Array.setIfInBounds_comm _ _ hji]
  exact h3.2.2
theorem qm4 {i : Nat} {oi : Oper} {v : Value} {fuel : Nat} {listed : Array Bool} {a : Act} {w : World} (hi : ops[i]? = some oi)
  (hs : Region.noSelect ops = true) (hf : Region.free md ops listed i = true) (hr : (Region.ready md ops listed).contains i = true)
  (hc : Region.closedB md ops listed = true) (hl : Region.lastB md ops listed ds i = true)
  (hQ : ∀ c a w, Q (.panic c) (a.put oi.dst v) w → Q (.panic c) a w) (hy : YieldsIf P ops S oi v a) (hS : S w)
  (h : qbK P md ops Q S ds fuel (listed.setIfInBounds i true) (a.put oi.dst v) w) : qbK P md ops Q S ds (fuel + 1) listed a w :=
 qmh hi (Region.noSelect_spec hs) hQ ops.size fuel listed a w (Region.free_spec hi hf) (Region.closedB_spec hc)
  (fun d hm hun => by have := List.all_eq_true.1 hl d hm; rw [hun] at this; simpa using this) (by simpa using hr) hy hS h
theorem qnp {rs : List Nat} {fuel : Nat} {listed : Array Bool} {a : Act} {w : World} (hr : Region.ready md ops listed = rs) (hne : rs ≠ [])
  (h : ∀ i ∈ rs, wpOp P ops Q i (fun a' w' => (i ∉ ds → S w → S w') ∧ qbK P md ops Q S ds fuel (listed.setIfInBounds i true) a' w') a w) : qbK P md ops Q S ds (fuel + 1) listed a w :=
 ⟨fun h0 => absurd (hr ▸ h0) hne, hr ▸ h⟩
theorem qm3 {listed : Array Bool} {a : Act} {w : World} (hr : Region.ready md ops listed = []) (h : Q .normal a w) :
  ∀ fuel, qbK P md ops Q S ds fuel listed a w
 | 0 => ⟨hr, h⟩
 | _ + 1 => ⟨fun _ => h, by rw [hr]; simp⟩
theorem qm6 {id : Nat} {a : Act} {w : World} (hm : P.follows .mixedOrders = true)
  (h : qbK P .any ops Q S ds ops.size (Array.replicate ops.size false) a { w with drawn := w.drawn + 1 }) : (Code.region id ops true).wp P Q a w :=
 wp_region_any hm (qke _ _ _ _ h)
end
section
variable {P : Program} {ops : Array Oper} {Q : Exit → Act → World → Prop} {md : Region.Mode} {S : World → Prop} {ds : List Nat}
def qeC (P : Program) (md : Region.Mode) (ops : Array Oper) (Q : Exit → Act → World → Prop) (S : World → Prop) (ds : List Nat) (fuel : Nat) (listed : Array Bool) (a : Act) (w : World) (rs : List Nat) : Prop :=
 ∀ i ∈ rs, wpOp P ops Q i (fun a' w' => (i ∉ ds → S w → S w') ∧ qbK P md ops Q S ds fuel (listed.setIfInBounds i true) a' w') a w
theorem qeC.nil {fuel : Nat} {listed : Array Bool} {a : Act} {w : World} : qeC P md ops Q S ds fuel listed a w [] := fun _ h => by cases h
theorem qeC.cons {fuel : Nat} {listed : Array Bool} {a : Act} {w : World} {i : Nat} {o : Oper} {rs : List Nat} (ho : ops[i]? = some o) (hd : i ∉ ds)
  (h : ∀ K' : Act → World → Prop, Shut (∀ a w, S w → (S w → qbK P md ops Q S ds fuel (listed.setIfInBounds i true) a w) → K' a w) → if Region.wanted o (yielded ops a.tmps) = true then Oper.wp P o a w K' Q else K' (a.put o.dst undef) w)
  (hs : qeC P md ops Q S ds fuel listed a w rs) : qeC P md ops Q S ds fuel listed a w (i :: rs) := fun j hj => by
 rcases List.mem_cons.1 hj with rfl | hj
 ·
  exact wpOp_step ho (fun K' hK => h K' (fun a w hS hW => hK a w ⟨fun _ _ => hS, hW hS⟩))
 exact hs j hj
theorem qi7 {rs : List Nat} {fuel : Nat} {listed : Array Bool} {a : Act} {w : World} (hr : Region.ready md ops listed = rs) (hne : rs ≠ [])
  (h : qeC P md ops Q S ds fuel listed a w rs) : qbK P md ops Q S ds (fuel + 1) listed a w := qnp hr hne h
theorem qfM {id n : Nat} {a : Act} {w : World} (l : Array Bool) (hm : P.follows .mixedOrders = true) (hn : ops.size = n) (hl : Array.replicate n false = l) (hS : S w.drew)
  (h : S w.drew → qbK P .any ops Q S ds n l a w.drew) : (Code.region id ops true).wp P Q a w := by
 subst hn
 subst hl
 exact qm6 hm (h hS)
def qlc (md : Region.Mode) (ops : Array Oper) (ds : List Nat) (l l' : Array Bool) (i : Nat) : Bool :=
 Region.noSelect ops && Region.free md ops l i && (Region.ready md ops l).contains i && Region.closedB md ops l && Region.lastB md ops l ds i && (l.setIfInBounds i true == l')
theorem qrG {i : Nat} {N : Option Tmp} {oi : Oper} {v : Value} {fuel : Nat} {l : Array Bool} {a : Act} {w : World} (l' : Array Bool) (hi : ops[i]? = some oi) (hN : oi.dst = N) (hc : qlc md ops ds l l' i = true)
  (hQ : ∀ c a w, Q (.panic c) (a.put oi.dst v) w → Q (.panic c) a w) (hy : YieldsIf P ops S oi v a) (hS : S w) {a' : Act} (ha : a.put N v = a')
  (h : qbK P md ops Q S ds fuel l' a' w) : qbK P md ops Q S ds (fuel + 1) l a w := by
 subst ha
 subst hN
 simp only [qlc, Bool.and_eq_true, beq_iff_eq] at hc
 obtain ⟨⟨⟨⟨⟨h1, h2⟩, h3⟩, h4⟩, h5⟩, h6⟩ := hc
 subst h6
 exact qm4 hi h1 h2 h3 h4 h5 hQ hy hS h
def anyB (md : Region.Mode) (ops : Array Oper) (l l' : Array Bool) (i : Nat) : Bool :=
 Region.noSelect ops && Region.free md ops l i && (Region.ready md ops l).contains i && (l.setIfInBounds i true == l')
theorem qnJ {i : Nat} {N : Option Tmp} {oi : Oper} {v : Value} {fuel : Nat} {l : Array Bool} {a : Act} {w : World} (l' : Array Bool) (hi : ops[i]? = some oi) (hN : oi.dst = N) (hc : anyB md ops l l' i = true)
  (hQ : ∀ c a w, Q (.panic c) (a.put oi.dst v) w → Q (.panic c) a w) (hy : Yields P ops oi v a) {a' : Act} (ha : a.put N v = a')
  (h : qbK P md ops Q S ds fuel l' a' w) : qbK P md ops Q S ds (fuel + 1) l a w := by
 subst ha
 subst hN
 simp only [anyB, Bool.and_eq_true, beq_iff_eq] at hc
 obtain ⟨⟨⟨h1, h2⟩, h3⟩, h6⟩ := hc
 subst h6
 exact qnq hi (Region.noSelect_spec h1) hQ fuel l a w (Region.free_spec hi h2) (by simpa using h3) hy h
def qmf (md : Region.Mode) (ops : Array Oper) (l l' : Array Bool) (i : Nat) : Bool := (Region.ready md ops l == [i]) && (l.setIfInBounds i true == l')
theorem one_ {i : Nat} {N : Option Tmp} {oi : Oper} {fuel : Nat} {l : Array Bool} {a : Act} {w : World} (l' : Array Bool) (hi : ops[i]? = some oi) (hN : oi.dst = N) (hc : qmf md ops l l' i = true) (hd : i ∉ ds)
  (h : ∀ K : Act → World → Prop, Shut (∀ a' w', S w' → (S w' → qbK P md ops Q S ds fuel l' a' w') → K a' w') → if Region.wanted oi (yielded ops a.tmps) = true then Oper.wp P oi a w K Q else K (a.put N undef) w) :
  qbK P md ops Q S ds (fuel + 1) l a w := by
 subst hN
 simp only [qmf, Bool.and_eq_true, beq_iff_eq] at hc
 obtain ⟨h1, h2⟩ := hc
 subst h2
 exact qi7 h1 (by simp) (qeC.cons hi hd (fun K hK => h K hK) qeC.nil)
theorem qgo {l : Array Bool} {a : Act} {w : World} {n : Nat} (hr : (Region.ready md ops l == []) = true) (h : Q .normal a w) : qbK P md ops Q S ds n l a w := qm3 (by simpa using hr) h n
theorem two_ {i j : Nat} {Ni Nj : Option Tmp} {oi oj : Oper} {fuel : Nat} {l : Array Bool} {a : Act} {w : World} (li lj : Array Bool) (hi : ops[i]? = some oi) (hj : ops[j]? = some oj) (hNi : oi.dst = Ni) (hNj : oj.dst = Nj)
  (hc : (Region.ready md ops l == [i, j] && l.setIfInBounds i true == li && l.setIfInBounds j true == lj) = true) (hdi : i ∉ ds) (hdj : j ∉ ds)
  (h1 : ∀ K : Act → World → Prop, Shut (∀ a' w', S w' → (S w' → qbK P md ops Q S ds fuel li a' w') → K a' w') → if Region.wanted oi (yielded ops a.tmps) = true then Oper.wp P oi a w K Q else K (a.put Ni undef) w)
  (h2 : ∀ K : Act → World → Prop, Shut (∀ a' w', S w' → (S w' → qbK P md ops Q S ds fuel lj a' w') → K a' w') → if Region.wanted oj (yielded ops a.tmps) = true then Oper.wp P oj a w K Q else K (a.put Nj undef) w) :
  qbK P md ops Q S ds (fuel + 1) l a w := by
 subst hNi
 subst hNj
 simp only [Bool.and_eq_true, beq_iff_eq] at hc
 obtain ⟨⟨h3, h4⟩, h5⟩ := hc
 subst h4
 subst h5
 exact qi7 h3 (by simp) (qeC.cons hi hdi (fun K hK => h1 K hK) (qeC.cons hj hdj (fun K hK => h2 K hK) qeC.nil))
def qhG : Act → List (Tmp × Value) → Act
 | a, [] => a
 | a, (n, v) :: r => qhG (a.put (some n) v) r
theorem qrD {σ : Type} {fuel : Nat} {l : Array Bool} {a : Act} {w : World} (fuel' : Nat) (l' : Array Bool) (ns : σ → List (Tmp × Value)) (F : σ → World → Prop)
  (hcont : ∀ s w', F s w' → qbK P md ops Q S ds fuel' l' (qhG a (ns s)) w')
  (h : (∀ s w', F s w' → qbK P md ops Q S ds fuel' l' (qhG a (ns s)) w') → qbK P md ops Q S ds fuel l a w) : qbK P md ops Q S ds fuel l a w := h hcont
theorem qcX {fuel : Nat} {l : Array Bool} {a a' : Act} {w : World} (ha : a = a') (h : qbK P md ops Q S ds fuel l a' w) : qbK P md ops Q S ds fuel l a w := by
 subst ha
 exact h
theorem qpw {oi : Oper} {N : Option Tmp} {a : Act} {w : World} {K : Act → World → Prop} (f : FuncId) (args : Array Value) (hw : Region.wanted oi (yielded ops a.tmps) = true) (hN : oi.dst = N) (hrun : (execOp a.eval oi).run P w = .ok (.enter f args) w)
  (h : Calls P f args w fun e w' => ∃ v, e = .returned v ∧ K (a.put N v) w') : if Region.wanted oi (yielded ops a.tmps) = true then Oper.wp P oi a w K Q else K (a.put N undef) w := by
 rw [if_pos hw]
 subst hN
 unfold Oper.wp
 rw [hrun, Oper.upon_enter]
 refine h.mono fun e w'' hh => ?_
 obtain ⟨v, rfl, hk⟩ := hh
 exact hk
theorem qja {f : FuncId} {fn : Func} (hf : P.funcs[f]? = some fn) (hname : (fn.name == "runtime.NumGoroutine") = false) (hb : fn.body.isSome = true) (args : Array Value) (w : World) : (callFunc f args).run P w = .ok (.enter f args) w := by
 have h1 : fn.name ≠ "runtime.NumGoroutine" := by simpa using hname
 obtain ⟨c, hc⟩ := Option.isSome_iff_exists.1 hb
 simp [callFunc, hf, h1, hc]
theorem qd4 {oi : Oper} {N : Option Tmp} {a : Act} {w : World} {K : Act → World → Prop} {f : FuncId} {fn : Func} {aas : Array Operand} {ts : Array TypeId} (hf : P.funcs[f]? = some fn) (hname : (fn.name == "runtime.NumGoroutine") = false) (hb : fn.body.isSome = true) (args : Array Value)
  (hw : Region.wanted oi (yielded ops a.tmps) = true) (hN : oi.dst = N) (hop : oi.op = .call { callee := .value (.func f), args := aas, argTypes := ts }) (hargs : aas.map a.eval = args)
  (h : Calls P f args w fun e w' => ∃ v, e = .returned v ∧ K (a.put N v) w') : if Region.wanted oi (yielded ops a.tmps) = true then Oper.wp P oi a w K Q else K (a.put N undef) w := by
 refine qpw f args hw hN ?_ h
 have he := qja hf hname hb args w
 unfold execOp
 simp [hop, resolve, Deferred.ofValue, invoke, Act.eval, hargs, he]
theorem qbs {rest : List Oper} {oi : Oper} {a : Act} {w : World} (N : Option Tmp) (hd : oi.dst = N) (hg : oi.guard = none) {f : FuncId} {fn : Func} {aas : Array Operand} {ts : Array TypeId} (hf : P.funcs[f]? = some fn) (hname : (fn.name == "runtime.NumGoroutine") = false) (hb : fn.body.isSome = true) (args : Array Value)
  (hop : oi.op = .call { callee := .value (.func f), args := aas, argTypes := ts }) (hargs : aas.map a.eval = args)
  (h : Calls P f args w fun e w' => ∃ v, e = .returned v ∧ wpList P ops Q rest (a.put N v) w') : wpList P ops Q (oi :: rest) a w := by
 refine wpList_plain hg fun K hK => ?_
 have he := qja hf hname hb args w
 have hrun : (execOp a.eval oi).run P w = .ok (.enter f args) w := by
  unfold execOp
  simp [hop, resolve, Deferred.ofValue, invoke, Act.eval, hargs, he]
 unfold Oper.wp
 rw [hrun, Oper.upon_enter]
 refine h.mono fun e w'' hh => ?_
 obtain ⟨v, rfl, hk⟩ := hh
 subst hd
 exact hK _ _ hk
theorem qor {oi : Oper} {N : Option Tmp} {a : Act} {w w1 : World} {v : Value} {K : Act → World → Prop} (hw : Region.wanted oi (yielded ops a.tmps) = true) (hN : oi.dst = N) (hrun : (execOp a.eval oi).run P w = .ok (.value v) w1)
  (h : K (a.put N v) w1) : if Region.wanted oi (yielded ops a.tmps) = true then Oper.wp P oi a w K Q else K (a.put N undef) w := by
 rw [if_pos hw]
 subst hN
 unfold Oper.wp
 rw [hrun]
 exact h
theorem qpM {oi : Oper} {a : Act} {w w1 : World} {K : Act → World → Prop} (hw : Region.wanted oi (yielded ops a.tmps) = true) (hN : oi.dst = none) (hrun : (execOp a.eval oi).run P w = .ok .skip w1)
  (h : K a w1) : if Region.wanted oi (yielded ops a.tmps) = true then Oper.wp P oi a w K Q else K (a.put none undef) w := by
 rw [if_pos hw]
 unfold Oper.wp
 rw [hrun]
 show K (a.put oi.dst undef) w1
 rw [hN]
 exact h
theorem qaB (n : Int) : IntKind.i64.wrap n = Go.RowKit.wrap64 n := by unfold Go.RowKit.wrap64; exact IntKind.wrap_i64 n
theorem qaC (n : Int) : IntKind.i32.wrap n = Go.RowKit.wrap32 n := by unfold Go.RowKit.wrap32; exact IntKind.wrap_i32 n
end
end Go.Proofs.YtmhomdohhihlcaaW.PrintLast
namespace Go.Proofs.YtmhomdohhihlcaaW.PrintLast
open Go.Proofs.YtmhomdohhihlcaaW.PrintWords (qaa)
def qiL (md : Region.Mode) (o : Oper) : List Nat := (o.after.toList.filter (fun e => Region.binds md e)).map (fun e => e.on)
def qmw (md : Region.Mode) (ops : Array Oper) (i : Nat) (oi : Oper) : List Nat := (List.range ops.size).filter fun j => !(j == i) && match ops[j]? with
 | some oj => !(oj.after.any (fun e => Region.binds md e && e.on == i) || oi.apart ops oj)
 | none => false
def rtab (md : Region.Mode) (ops : Array Oper) : Bool × List (List Nat × List Nat) := (Region.noSelect ops, (List.range ops.size).map fun i => match ops[i]? with
 | some o => (qiL md o, qmw md ops i o)
 | none => ([], []))
def qhw (T : List (List Nat × List Nat)) (l : List Bool) (i : Nat) : Bool := !l.getD i true && match T[i]? with
 | some r => r.1.all (fun j => l.getD j false)
 | none => false
def qjP (T : List (List Nat × List Nat)) (l : List Bool) : List Nat := (List.range T.length).filter (qhw T l)
def qlB (T : List (List Nat × List Nat)) (l : List Bool) (i : Nat) : Bool := match T[i]? with
 | some r => r.2.all (fun j => l.getD j true)
 | none => false
def qky (T : List (List Nat × List Nat)) (l : List Bool) : Bool := (List.range T.length).all fun j => !l.getD j false || match T[j]? with
 | some r => r.1.all (fun k => l.getD k false)
 | none => true
def qjO (T : List (List Nat × List Nat)) (i : Nat) : Nat → Nat → Bool
 | 0, _ => false
 | fuel + 1, d => match T[d]? with
  | some r => r.1.any fun j => j == i || qjO T i fuel j
  | none => false
def qnI (T : List (List Nat × List Nat)) (l : List Bool) (ds : List Nat) (i : Nat) : Bool := ds.all fun d => l.getD d true || qjO T i T.length d
section
variable {md : Region.Mode} {ops : Array Oper} {T : Bool × List (List Nat × List Nat)} {l l' li lj lk : Array Bool} {ds : List Nat} {i j k : Nat}
theorem gd (l : Array Bool) (j : Nat) (b : Bool) : l.getD j b = l.toList.getD j b := by simp [Array.getD_eq_getD_getElem?, List.getD_eq_getElem?_getD]
theorem qng (o : Oper) (p : Nat → Bool) : o.after.all (fun e => !Region.binds md e || p e.on) = (qiL md o).all p := by
 unfold qiL
 rw [← Array.all_toList]
 induction o.after.toList with
 | nil => rfl
 | cons e r ih =>
  rw [List.all_cons, ih, List.filter_cons]
  cases h : Region.binds md e <;> simp
theorem qqe (o : Oper) (p : Nat → Bool) : o.after.any (fun e => Region.binds md e && p e.on) = (qiL md o).any p := by
 unfold qiL
 rw [← Array.any_toList]
 induction o.after.toList with
 | nil => rfl
 | cons e r ih =>
  rw [List.any_cons, ih, List.filter_cons]
  cases h : Region.binds md e <;> simp
theorem qh7 : (rtab md ops).2.length = ops.size := by simp [rtab]
theorem qi6 {o : Oper} (h : ops[i]? = some o) : (rtab md ops).2[i]? = some (qiL md o, qmw md ops i o) := by
 have hi := (Array.getElem?_eq_some_iff.1 h).1
 unfold rtab
 rw [List.getElem?_map, List.getElem?_range hi, Option.map_some, h]
theorem qi5 (h : ops[i]? = none) : (rtab md ops).2[i]? = none := by
 have hi : ops.size ≤ i := Array.getElem?_eq_none_iff.1 h
 exact List.getElem?_eq_none (by rw [qh7]; exact hi)
theorem qpK : qhw (rtab md ops).2 l.toList i = (!l.getD i true && ((ops[i]?).map (·.after.all fun e => !Region.binds md e || l.getD e.on false)).getD false) := by
 unfold qhw
 rw [gd]
 cases h : ops[i]? with
 | none => rw [qi5 h]; rfl
 | some o =>
  rw [qi6 h]
  simp only [Option.map_some, Option.getD_some]
  rw [← qng]
  simp only [gd]
theorem qj8 : Region.ready md ops l = qjP (rtab md ops).2 l.toList := by
 unfold Region.ready qjP
 rw [qh7]
 refine List.filter_congr (fun i _ => ?_)
 rw [qpK]
theorem qoF : Region.free md ops l i = qlB (rtab md ops).2 l.toList i := by
 unfold Region.free qlB
 cases h : ops[i]? with
 | none => rw [qi5 h]
 | some oi =>
  rw [qi6 h]
  simp only [qmw]
  rw [List.all_filter]
  congr 1
  funext j
  rw [gd]
  cases hj : ops[j]? with
  | none => cases (j == i) <;> cases (l.toList.getD j true) <;> simp
  | some oj =>
   cases (j == i) <;> cases (l.toList.getD j true) <;> cases (oj.after.any (fun e => Region.binds md e && e.on == i) || oi.apart ops oj) <;> simp_all
theorem qp3 : Region.closedB md ops l = qky (rtab md ops).2 l.toList := by
 unfold Region.closedB qky
 rw [qh7]
 congr 1
 funext j
 rw [gd]
 cases h : ops[j]? with
 | none => rw [qi5 h]
 | some o =>
  rw [qi6 h]
  simp only
  rw [← qng]
  simp only [gd]
theorem qom : ∀ (fuel d : Nat), Region.reachB md ops i fuel d = qjO (rtab md ops).2 i fuel d
 | 0, _ => rfl
 | fuel + 1, d => by
  unfold Region.reachB qjO
  cases h : ops[d]? with
  | none => rw [qi5 h]
  | some o =>
   rw [qi6 h]
   simp only
   rw [← qqe]
   congr 1
   funext e
   rw [qom fuel]
theorem qtg : Region.lastB md ops l ds i = qnI (rtab md ops).2 l.toList ds i := by
 unfold Region.lastB qnI
 rw [qh7]
 congr 1
 funext d
 rw [gd, qom]
theorem qll (h : qhw T.2 l.toList i = true) (hT : rtab md ops = T) : (Region.ready md ops l).contains i = true := by
 subst hT
 rw [qj8]
 unfold qjP
 rw [List.contains_iff_mem, List.mem_filter, List.mem_range]
 refine ⟨?_, h⟩
 unfold qhw at h
 rw [Bool.and_eq_true] at h
 cases hq : (rtab md ops).2[i]? with
 | none => rw [hq] at h; simp at h
 | some r => exact (List.getElem?_eq_some_iff.1 hq).1
theorem qkp (h : (l.toList.set i true == l'.toList) = true) : (l.setIfInBounds i true == l') = true := by
 rw [beq_iff_eq] at h ⊢
 apply Array.ext'
 rw [Array.toList_setIfInBounds]
 exact h
def anyT (T : Bool × List (List Nat × List Nat)) (l l' : List Bool) (i : Nat) : Bool := T.1 && qlB T.2 l i && qhw T.2 l i && (l.set i true == l')
theorem qty (hT : rtab md ops = T) (h : anyT T l.toList l'.toList i = true) : anyB md ops l l' i = true := by
 simp only [anyT, Bool.and_eq_true] at h
 obtain ⟨⟨⟨h1, h2⟩, h3⟩, h4⟩ := h
 have h5 := qll h3 hT
 have h6 := qkp h4
 subst hT
 simp only [anyB, Bool.and_eq_true]
 exact ⟨⟨⟨h1, by rw [qoF]; exact h2⟩, h5⟩, h6⟩
def qpP (T : Bool × List (List Nat × List Nat)) (ds : List Nat) (l l' : List Bool) (i : Nat) : Bool := T.1 && qlB T.2 l i && qhw T.2 l i && qky T.2 l && qnI T.2 l ds i && (l.set i true == l')
theorem qtn (hT : rtab md ops = T) (h : qpP T ds l.toList l'.toList i = true) : qlc md ops ds l l' i = true := by
 simp only [qpP, Bool.and_eq_true] at h
 obtain ⟨⟨⟨⟨⟨h1, h2⟩, h3⟩, h4⟩, h5⟩, h6⟩ := h
 have h7 := qll h3 hT
 have h8 := qkp h6
 subst hT
 simp only [qlc, Bool.and_eq_true]
 exact ⟨⟨⟨⟨⟨h1, by rw [qoF]; exact h2⟩, h7⟩, by rw [qp3]; exact h4⟩, by rw [qtg]; exact h5⟩, h8⟩
theorem qdd (hT : rtab md ops = T) (h : (qjP T.2 l.toList == [i] && l.toList.set i true == l'.toList) = true) : qmf md ops l l' i = true := by
 simp only [Bool.and_eq_true] at h
 obtain ⟨h1, h2⟩ := h
 subst hT
 simp only [qmf, Bool.and_eq_true]
 exact ⟨by rw [qj8]; exact h1, qkp h2⟩
theorem qqp (hT : rtab md ops = T) (h : (qjP T.2 l.toList == [i, j] && l.toList.set i true == li.toList && l.toList.set j true == lj.toList) = true) : (Region.ready md ops l == [i, j] && l.setIfInBounds i true == li && l.setIfInBounds j true == lj) = true := by
 simp only [Bool.and_eq_true] at h ⊢
 obtain ⟨⟨h1, h2⟩, h3⟩ := h
 subst hT
 exact ⟨⟨by rw [qj8]; exact h1, qkp h2⟩, qkp h3⟩
theorem qe9 (hT : rtab md ops = T) (h : (qjP T.2 l.toList == []) = true) : (Region.ready md ops l == []) = true := by
 subst hT
 rw [qj8]
 exact h
def upM (B : List Nat) (d : Nat) : List Nat → Nat
 | [] => 0
 | n :: r => (2 ^ n ||| (if n < d then B.getD n 0 else 0)) ||| upM B d r
def qfh (T : List (List Nat × List Nat)) (B : List Nat) : Bool := (List.range T.length).all fun d => match T[d]? with
 | some r => (B.getD d 0 ||| upM B d r.1) == upM B d r.1
 | none => false
theorem qo8 {B : List Nat} {d i : Nat} : ∀ {ns : List Nat}, (upM B d ns).testBit i = true → ∃ n ∈ ns, n = i ∨ (n < d ∧ (B.getD n 0).testBit i = true)
 | [], h => by simp [upM] at h
 | n :: r, h => by
  unfold upM at h
  rw [Nat.testBit_or, Nat.testBit_or, Bool.or_eq_true, Bool.or_eq_true] at h
  rcases h with (h | h) | h
  ·
   rw [Nat.testBit_two_pow] at h
   exact ⟨n, List.mem_cons_self, .inl (by simpa using h)⟩
  ·
   by_cases hn : n < d
   ·
    rw [if_pos hn] at h
    exact ⟨n, List.mem_cons_self, .inr ⟨hn, h⟩⟩
   rw [if_neg hn] at h
   simp at h
  obtain ⟨m, hm, h2⟩ := qo8 h
  exact ⟨m, List.mem_cons_of_mem _ hm, h2⟩
theorem qnh {T : List (List Nat × List Nat)} {B : List Nat} (hB : qfh T B = true) : ∀ (fuel d : Nat), d < fuel → d < T.length → (B.getD d 0).testBit i = true → qjO T i fuel d = true
 | 0, d, h, _, _ => by omega
 | fuel + 1, d, h, hd, hb => by
  have h1 := List.all_eq_true.1 hB d (List.mem_range.2 hd)
  cases hr : T[d]? with
  | none => rw [hr] at h1; simp at h1
  | some r =>
   rw [hr] at h1
   simp only [beq_iff_eq] at h1
   have h2 : (upM B d r.1).testBit i = true := by rw [← h1, Nat.testBit_or, hb, Bool.true_or]
   obtain ⟨n, hn, h3⟩ := qo8 h2
   unfold qjO
   rw [hr]
   simp only
   rw [List.any_eq_true]
   refine ⟨n, hn, ?_⟩
   rcases h3 with rfl | ⟨h4, h5⟩
   ·
    simp
   rw [qnh hB fuel n (by omega) (by omega) h5, Bool.or_true]
def qrE (T : List (List Nat × List Nat)) (B : List Nat) (l : List Bool) (ds : List Nat) (i : Nat) : Bool := ds.all fun d => l.getD d true || (decide (d < T.length) && (B.getD d 0).testBit i)
def qrF (T : Bool × List (List Nat × List Nat)) (B : List Nat) (ds : List Nat) (l l' : List Bool) (i : Nat) : Bool := T.1 && qlB T.2 l i && qhw T.2 l i && qky T.2 l && qrE T.2 B l ds i && (l.set i true == l')
theorem qcE {B : List Nat} (hT : rtab md ops = T) (hB : qfh T.2 B = true) (h : qrF T B ds l.toList l'.toList i = true) : qlc md ops ds l l' i = true := by
 refine qtn hT ?_
 simp only [qrF, qpP, Bool.and_eq_true] at h ⊢
 obtain ⟨⟨⟨⟨⟨h1, h2⟩, h3⟩, h4⟩, h5⟩, h6⟩ := h
 refine ⟨⟨⟨⟨⟨h1, h2⟩, h3⟩, h4⟩, ?_⟩, h6⟩
 unfold qrE at h5
 unfold qnI
 rw [List.all_eq_true] at h5 ⊢
 intro d hd
 have h7 := h5 d hd
 rw [Bool.or_eq_true, Bool.and_eq_true, decide_eq_true_eq] at h7
 rcases h7 with h7 | ⟨h8, h9⟩
 ·
  rw [h7, Bool.true_or]
 rw [qnh hB _ d h8 h8 h9, Bool.or_true]
theorem qel {P : Program} {Q : Exit → Act → World → Prop} {S : World → Prop} {n : Nat} {a : Act} {w : World} {B : List Nat} (hT : rtab md ops = T) (hB : qfh T.2 B = true) (h : qaa (rtab md ops = T) → qaa (qfh T.2 B = true) → qbK P md ops Q S ds n l a w) : qbK P md ops Q S ds n l a w := h ⟨hT⟩ ⟨hB⟩
end
def qh6 : Code → Nat → Option (Array Oper)
 | .region id ops _, k => if id == k then some ops else none
 | .seq a b, k => match qh6 a k with
  | some o => some o
  | none => qh6 b k
 | .cond _ a b, k => match qh6 a k with
  | some o => some o
  | none => qh6 b k
 | .block _ c, k => qh6 c k
 | .loop c, k => qh6 c k
 | .scope c, k => qh6 c k
 | .rangeFunc _ _ a b, k => match qh6 a k with
  | some o => some o
  | none => qh6 b k
 | _, _ => none
def qi4 (f : Func) (k : Nat) : Array Oper := ((f.body.bind fun c => qh6 c k)).getD #[]
end Go.Proofs.YtmhomdohhihlcaaW.PrintLast
namespace Go.Proofs.YtmhomdohhihlcaaW.PrintWords
open Go.RowKit
namespace Kd
def tag {α : Type} (f : Nat → Nat) (d : Kd α) : Kd (α × Nat) where
 sz := d.sz
 E := d.E
 K := fun w x cs => d.K w x.1 cs
 M := fun w base ok x cs => d.M w base (fun k => ok k ∧ f k = x.2) x.1 cs
 K_len := fun h => d.K_len h
 K_one := fun h => d.K_one h
 K_below := fun hb h => d.K_below hb h
 K_of_M := fun h => d.K_of_M h
 M_mono := fun hok h => d.M_mono (fun k hk => ⟨hok k hk.1, hk.2⟩) h
 M_bound := fun h => d.M_mono (fun _ hk => ⟨⟨hk.1.1, hk.2⟩, hk.1.2⟩) (d.M_bound h)
 M_move := fun hm h => d.M_move (fun k hk => hm k hk.1) h
 M_lower := fun hb h => d.M_lower hb h
def raw (sz : Nat) : Kd (List Value) where
 sz := sz
 E := []
 K := fun _ x cs => cs = x ∧ cs.length = sz ∧ ∀ u ∈ cs, u.oneCell' = true
 M := fun _ _ _ x cs => cs = x ∧ cs.length = sz ∧ ∀ u ∈ cs, u.oneCell' = true
 K_len := fun h => h.2.1
 K_one := fun h => h.2.2
 K_below := fun _ h => h
 K_of_M := fun h => h
 M_mono := fun _ h => h
 M_bound := fun h => h
 M_move := fun _ h => h
 M_lower := fun _ h => h
def S {α : Type} (d : Kd α) (e : Nat) (w : World) (base : Nat) (ok : Nat → Prop) (v : Value) (xs : List α) : Prop := ∃ f, (tag f d).R e w base ok v xs.zipIdx
section
variable {α β : Type} {d : Kd α} {d' : Kd β} {e e' : Nat} {w w1 W : World} {base b : Nat} {ok ok' okv oku : Nat → Prop} {u v : Value} {xs : List α} {ys : List β}
theorem qrP (hE : d.E = []) (h : d.R e w base ok v xs) : d.R e w base (fun k => some k = v.ownBlock) v xs := by
 obtain ⟨h0, inner, ho, hr⟩ := h
 refine ⟨fun k hk => hk.symm, inner, ho, hr.imp_ (fun p c hp => d.M_mono (fun k hk => ?_) (d.M_bound hp))⟩
 obtain ⟨_, _, _, q, hq, _⟩ := hk
 rw [hE] at hq
 cases hq
end
def gap {α : Type} (f : Nat → Nat) (d : Kd α) (i : Nat) (c : List Value) : Kd (α × Nat) where
 sz := d.sz
 E := d.E
 K := fun w x cs => (x.2 = i → cs = c ∧ cs.length = d.sz ∧ ∀ u ∈ cs, u.oneCell' = true) ∧ (x.2 ≠ i → d.K w x.1 cs)
 M := fun w base ok x cs => (x.2 = i → cs = c ∧ cs.length = d.sz ∧ ∀ u ∈ cs, u.oneCell' = true) ∧ (x.2 ≠ i → d.M w base (fun k => ok k ∧ f k = x.2) x.1 cs)
 K_len := fun {w x cs} h => by
  by_cases hx : x.2 = i
  ·
   exact (h.1 hx).2.1
  exact d.K_len (h.2 hx)
 K_one := fun {w x cs} h => by
  by_cases hx : x.2 = i
  ·
   exact (h.1 hx).2.2
  exact d.K_one (h.2 hx)
 K_below := fun hb h => ⟨h.1, fun hx => d.K_below hb (h.2 hx)⟩
 K_of_M := fun h => ⟨h.1, fun hx => d.K_of_M (h.2 hx)⟩
 M_mono := fun hok h => ⟨h.1, fun hx => d.M_mono (fun k hk => ⟨hok k hk.1, hk.2⟩) (h.2 hx)⟩
 M_bound := fun h => ⟨h.1, fun hx => d.M_mono (fun _ hk => ⟨⟨hk.1.1, hk.2⟩, hk.1.2⟩) (d.M_bound (h.2 hx))⟩
 M_move := fun hm h => ⟨h.1, fun hx => d.M_move (fun k hk => hm k hk.1) (h.2 hx)⟩
 M_lower := fun hb h => ⟨h.1, fun hx => d.M_lower hb (h.2 hx)⟩
def H {α : Type} (d : Kd α) (e : Nat) (w : World) (base : Nat) (ok : Nat → Prop) (v : Value) (xs : List α) (i : Int) (oki : Nat → Prop) (c : List Value) : Prop :=
 (∀ k, oki k → ok k) ∧ ∃ f, (gap f d i.toNat c).R e w base (fun k => ok k ∧ ¬ oki k) v xs.zipIdx
end Kd
end Go.Proofs.YtmhomdohhihlcaaW.PrintWords
namespace Go.Proofs.YtmhomdohhihlcaaW.PrintWords
open Go.RowKit
namespace Kd
structure Heap {α : Type} (d : Kd α) : Prop where
 K : ∀ {w w1 : World} {x : α} {cs : List Value}, (∀ k, k < w.heap.size → w1.heap[k]? = w.heap[k]?) → d.K w x cs → d.K w1 x cs
theorem qvd {w w1 : World} (hb : ∀ k, k < w.heap.size → w1.heap[k]? = w.heap[k]?) {a : Addr} {v : Value} (h : w.cell? a = some v) : w1.cell? a = some v := by
 have := hb a.block (World.block_lt_of_cell? w a h)
 simpa [World.cell?, this] using h
end Kd
end Go.Proofs.YtmhomdohhihlcaaW.PrintWords
namespace Go.Proofs.YtmhomdohhihlcaaW.PrintWords
open Go.RowKit
def Kept (w W : World) (S : Nat → Prop) : Prop := w.heap.size ≤ W.heap.size ∧ ∀ i, i < w.heap.size → ¬ S i → W.heap[i]? = w.heap[i]?
section
variable {w W W2 : World} {S S2 S' : Nat → Prop}
theorem Kept.refl (w : World) (S : Nat → Prop) : Kept w w S := ⟨Nat.le_refl _, fun _ _ _ => rfl⟩
theorem Kept.of_below (h : Below w.heap.size w W) (S : Nat → Prop) : Kept w W S := ⟨h.size, fun i hi _ => h.block i hi⟩
theorem Kept.mono (h : Kept w W S) (hs : ∀ k, S k → S' k) : Kept w W S' := ⟨h.1, fun i hi hn => h.2 i hi (fun hk => hn (hs i hk))⟩
theorem Kept.then_ (h : Kept w W S) (k : Kept W W2 S2) (hs : ∀ k, S2 k → S k ∨ w.heap.size ≤ k) : Kept w W2 S :=
 ⟨Nat.le_trans h.1 k.1, fun i hi hn => (k.2 i (Nat.lt_of_lt_of_le hi h.1) (fun h2 => (hs i h2).elim hn (fun h3 => by omega))).trans (h.2 i hi hn)⟩
theorem Kept.of_grown {row : Option Nat} (hg : W.grownBy W2 row) (h : Kept w W S) (hr : ∀ k, row = some k → S k ∨ w.heap.size ≤ k) : Kept w W2 S :=
 h.then_ (S2 := fun k => row = some k) ⟨hg.size, fun i hi hn => hg.block i hi (fun he => hn he.symm)⟩ hr
theorem Kept.below (h : Kept w W S) (hb : Below W.heap.size W W2) : Kept w W2 S := h.then_ (Kept.of_below hb (fun _ => False)) (fun _ hk => hk.elim)
theorem Kept.alloc (h : Kept w W S) (o : Obj) : Kept w (W.alloc o) S := h.below (qag (Below.refl _ _) o)
theorem Kept.setCell (h : Kept w W S) {p : Addr} (hp : S p.block ∨ w.heap.size ≤ p.block) (u : Value) : Kept w (W.setCell p u) S :=
 h.then_ (S2 := fun k => k = p.block) ⟨by simp [World.setCell], fun i _ hn => Below.heap_setCell W p u i hn⟩ (fun k hk => by rw [hk]; exact hp)
theorem qfB {g : Nat} {o : Obj} (hb : W.heap[g]? = some o) (hk : Kept W W2 S) (hne : ¬ S g) : W2.heap[g]? = some o := (hk.2 g (qaN hb) hne).trans hb
theorem qi2 {a : Addr} {v : Value} (hc : W.cell? a = some v) (hk : Kept W W2 S) (hne : ¬ S a.block) : W2.cell? a = some v := by
 have := hk.2 a.block (World.block_lt_of_cell? W a hc) hne
 simpa [World.cell?, this] using hc
end
namespace Kd
section
variable {α : Type} {d : Kd α} {e base n c : Nat} {ok oki S S2 : Nat → Prop} {w w0 W W1 W2 : World} {v : Value} {A : Option Addr} {xs : List α} {i : Int} {cs : List Value}
theorem R_kept (h : d.R e W base ok v xs) (hk : Kept W W2 S) (hne : ∀ k, ok k → ¬ S k) : d.R e W2 base ok v xs := qkj h (fun k ho hlt => hk.2 k hlt (hne k ho))
end
end Kd
end Go.Proofs.YtmhomdohhihlcaaW.PrintWords
namespace Go.Proofs.YtmhomdohhihlcaaW.PrintWords
open Go.RowKit
def Foot (P : World → Prop) (W : World) (ok : Nat → Prop) : Prop := ∀ W' : World, (∀ k, ok k → k < W.heap.size → W'.heap[k]? = W.heap[k]?) → P W'
theorem qsv {W W1 : World} {k : Nat} (h : W1.heap[k]? = W.heap[k]?) (hlt : k < W.heap.size) : k < W1.heap.size := by
 rw [Array.getElem?_eq_getElem hlt] at h
 exact (Array.getElem?_eq_some_iff.1 h).1
namespace Foot
variable {P Q : World → Prop} {W W1 : World} {ok ok' : Nat → Prop}
theorem now (h : Foot P W ok) : P W := h W (fun _ _ _ => rfl)
theorem mono (h : Foot P W ok) (hok : ∀ k, ok k → ok' k) : Foot P W ok' := fun W' hW => h W' (fun k hk hlt => hW k (hok k hk) hlt)
theorem bound (h : Foot P W ok) : Foot P W (fun k => ok k ∧ k < W.heap.size) := fun W' hW => h W' (fun k hk hlt => hW k ⟨hk, hlt⟩ hlt)
theorem step (h : Foot P W ok) (hm : ∀ k, ok k → k < W.heap.size → W1.heap[k]? = W.heap[k]?) : Foot P W1 ok := fun W' hW => h W' (fun k hk hlt => (hW k hk (qsv (hm k hk hlt) hlt)).trans (hm k hk hlt))
theorem imp (h : Foot P W ok) (hi : ∀ W', P W' → Q W') : Foot Q W ok := fun W' hW => hi W' (h W' hW)
end Foot
namespace Kd
def F {α : Type} (d : Kd α) (W : World) (ok : Nat → Prop) (A : Option Addr) (n : Nat) (xs : List α) : Prop := Foot (fun W => d.C W A n xs) W ok
def FK {α : Type} (d : Kd α) (W : World) (ok : Nat → Prop) (x : α) (c : List Value) : Prop := Foot (fun W => d.K W x c) W ok
section
variable {α β : Type} {d : Kd α} {e base n n' cc g N : Nat} {ok ok' okp S : Nat → Prop} {w w0 w1 W W1 : World} {A A' : Option Addr} {u v v1 : Value} {xs : List α} {xs' : List β} {d' : Kd β} {x : α} {c : List Value}
theorem F_now (h : F d W ok A n xs) : d.C W A n xs := Foot.now h
theorem qtZ (d : Kd α) (W : World) (ok : Nat → Prop) : F d W ok none ([] : List α).length [] := fun W' _ => C_nil d W'
theorem R_F (h : d.R e W base ok (.slice A n cc) xs) : F d W ok A n xs := fun W' hW => by
 have h2 := R_reads' (qkj h hW)
 rw [h2.1]
 exact h2.2.2
theorem qnS (h : FK d W ok x c) : d.K W x c := Foot.now h
theorem qmo (h : FK d W ok x c) (hok : ∀ k, ok k → ok' k) : FK d W ok' x c := Foot.mono h hok
theorem qnR (h : FK d W ok x c) : FK d W (fun k => ok k ∧ k < W.heap.size) x c := Foot.bound h
theorem qoy (h : FK d W ok x c) (hm : ∀ k, ok k → k < W.heap.size → W1.heap[k]? = W.heap[k]?) : FK d W1 ok x c := Foot.step h hm
theorem qrI (h : d.M W base ok x c) : FK d W ok x c := fun _ hW => d.K_of_M (qpW h hW)
end
end Kd
end Go.Proofs.YtmhomdohhihlcaaW.PrintWords
namespace Go.Proofs.YtmhomdohhihlcaaW.PrintWords
open Go.RowKit
namespace Kd
def qie (sz : Nat) (n : Nat) (inner : List Value) : List (List Value) := (List.range n).map fun j => (inner.drop (j * sz)).take sz
theorem qek (sz n : Nat) (inner : List Value) : (qie sz n inner).length = n := by simp [qie]
theorem qp1 {sz n : Nat} {inner : List Value} {j : Nat} (hj : j < n) : (qie sz n inner)[j]? = some ((inner.drop (j * sz)).take sz) := by simp [qie, hj]
theorem qj3 {sz n : Nat} {inner : List Value} {j : Nat} {c : List Value} (h : (qie sz n inner)[j]? = some c) : c = (inner.drop (j * sz)).take sz := by
 have hj : j < n := by have := (List.getElem?_eq_some_iff.1 h).1; rwa [qek] at this
 rw [qp1 hj] at h
 injection h with h
 exact h.symm
theorem qoo {α : Type} {Rr : α → List Value → Prop} {sz : Nat} {xs : List α} {inner : List Value} (h : Reps Rr sz xs inner) (hR : ∀ x c, Rr x c → c.length = sz ∧ ∀ u ∈ c, u.oneCell' = true) : Reps (fun x cs => cs = x ∧ cs.length = sz ∧ ∀ u ∈ cs, u.oneCell' = true) sz (qie sz xs.length inner) inner := by
 refine ⟨by rw [qek]; exact h.1, fun j p hj => ?_⟩
 have hjl : j < xs.length := by have := (List.getElem?_eq_some_iff.1 hj).1; rwa [qek] at this
 have hp := qj3 hj
 exact ⟨hp.symm, hR _ _ (h.2 j _ (List.getElem?_eq_getElem hjl))⟩
section
variable {α : Type} {d : Kd α} {e base n cc g : Nat} {ok ok' okp S : Nat → Prop} {w w1 W W1 : World} {A : Option Addr} {u v v1 : Value} {xs : List α} {x : α} {c : List Value}
def N {α : Type} (d : Kd α) (e : Nat) (w : World) (base : Nat) (ok : Nat → Prop) (v : Value) (xs : List α) : Prop :=
 (∀ k, v.ownBlock = some k → ok k) ∧ ∃ rows : List (List Value), rows.length = xs.length ∧ (raw d.sz).R e w base (fun k => some k = v.ownBlock) v rows ∧ ∀ (j : Nat) (x : α) (c : List Value), xs[j]? = some x → rows[j]? = some c → FK d w (fun k => ok k ∧ some k ≠ v.ownBlock) x c
theorem qqj {sz : Nat} {rows : List (List Value)} (h : (raw sz).R e w base ok v rows) : (raw sz).R e w base (fun k => some k = v.ownBlock) v rows := qrP rfl h
theorem R_N (h : d.R e w base ok v xs) : N d e w base ok v xs := by
 obtain ⟨h0, inner, ho, hr⟩ := h
 refine ⟨h0, qie d.sz xs.length inner, qek _ _ _, ⟨fun k hk => hk.symm, inner, by rw [qek]; exact ho, qoo hr (fun x c hp => ⟨d.K_len (d.K_of_M hp), d.K_one (d.K_of_M hp)⟩)⟩, fun j x c hx hc => ?_⟩
 rw [qj3 hc]
 exact qrI (hr.2 j x hx)
theorem N_nil (d : Kd α) (e : Nat) (w : World) (base : Nat) (ok : Nat → Prop) : N d e w base ok (.slice none 0 0) [] := R_N (R_nil _ _ _ _ _)
theorem N_mono (h : N d e w base ok v xs) (hok : ∀ k, ok k → ok' k) : N d e w base ok' v xs := by
 obtain ⟨h0, rows, hl, hR, hf⟩ := h
 exact ⟨fun k hk => hok k (h0 k hk), rows, hl, hR, fun j x c hx hc => qmo (hf j x c hx hc) (fun k hk => ⟨hok k hk.1, hk.2⟩)⟩
theorem N_lt (h : N d e w base ok v xs) : ∀ k, v.ownBlock = some k → k < w.heap.size := by
 obtain ⟨_, rows, _, hR, _⟩ := h
 exact R_lt hR
theorem N_base (h : N d e w base ok v xs) : ∀ k, v.ownBlock = some k → base ≤ k := by
 obtain ⟨_, rows, _, hR, _⟩ := h
 exact R_base hR
theorem N_typed (h : N d e w base ok v xs) : ∀ k, v.ownBlock = some k → ∃ cells, w.heap[k]? = some (.cells cells e (0, 0)) := by
 obtain ⟨_, rows, _, hR, _⟩ := h
 exact R_typed hR
theorem qrO (h : N d e w base ok v xs) : N d e w base (fun k => ok k ∧ k < w.heap.size) v xs := by
 have hlt := N_lt h
 obtain ⟨h0, rows, hl, hR, hf⟩ := h
 exact ⟨fun k hk => ⟨h0 k hk, hlt k hk⟩, rows, hl, hR, fun j x c hx hc => qmo (qnR (hf j x c hx hc)) (fun k hk => ⟨⟨hk.1.1, hk.2⟩, hk.1.2⟩)⟩
theorem N_lower {base' : Nat} (h : N d e w base ok v xs) (hb : base' ≤ base) : N d e w base' ok v xs := by
 obtain ⟨h0, rows, hl, hR, hf⟩ := h
 exact ⟨h0, rows, hl, R_lower hR hb, hf⟩
theorem qnT (h : N d e w base ok v xs) (hm : ∀ k, ok k → k < w.heap.size → w1.heap[k]? = w.heap[k]?) : N d e w1 base ok v xs := by
 obtain ⟨h0, rows, hl, hR, hf⟩ := h
 exact ⟨h0, rows, hl, qkj hR (fun k hk hlt => hm k (h0 k hk.symm) hlt), fun j x c hx hc => qoy (hf j x c hx hc) (fun k hk hlt => hm k hk.1 hlt)⟩
theorem qku (h : N d e w base ok v xs) (hb : Below w.heap.size w w1) : N d e w1 base ok v xs := qnT h (fun k _ hk => hb.block k hk)
theorem N_alloc (h : N d e w base ok v xs) (o : Obj) : N d e (w.alloc o) base ok v xs := qku h (qag (Below.refl _ _) o)
theorem N_drew (h : N d e w base ok v xs) : N d e w.drew base ok v xs := qku h (qbC (Below.refl _ _))
theorem N_drewN (h : N d e w base ok v xs) (m : Nat) : N d e (w.drewN m) base ok v xs := qku h (qad (Below.refl _ _) m)
theorem N_far (h : N d e w base ok v xs) {p : Addr} (hok : ∀ k, ok k → k ≠ p.block) (u : Value) : N d e (w.setCell p u) base ok v xs := qnT h (fun k ho _ => Below.heap_setCell w p u k (hok k ho))
theorem N_elder' (h : N d e W base ok v xs) (hbase : ∀ k, u.ownBlock = some k → W.heap.size ≤ k) (hb : Below W.heap.size W w1) : N d e w1 base (fun k => ok k ∧ some k ≠ u.ownBlock) v xs :=
 N_mono (qku (qrO h) hb) (fun k hk => ⟨hk.1, fun he => by have := hbase k he.symm; have := hk.2; omega⟩)
theorem N_slice (h : N d e w base ok v xs) : ∃ A c, v = .slice A xs.length c := by
 obtain ⟨_, rows, hl, hR, _⟩ := h
 obtain ⟨A, c, he⟩ := R_slice hR
 exact ⟨A, c, by rw [he, hl]⟩
theorem N_reads' {n c : Nat} (h : N d e w base ok (.slice A n c) xs) : n = xs.length ∧ n ≤ c ∧ d.C w A xs.length xs := by
 obtain ⟨_, rows, hl, hR, hf⟩ := h
 obtain ⟨hn, hc, hC⟩ := R_reads' hR
 refine ⟨by omega, hc, ?_⟩
 rw [hl] at hC
 refine ⟨rfl, hC.2.1, fun hp => ?_⟩
 obtain ⟨ad, he, hcell⟩ := hC.2.2 hp
 refine ⟨ad, he, fun j p hj => ?_⟩
 have hjl : j < rows.length := by have := (List.getElem?_eq_some_iff.1 hj).1; omega
 obtain ⟨c', hcl, hK, hcc⟩ := hcell j _ (List.getElem?_eq_getElem hjl)
 have hk := qnS (hf j p _ hj (List.getElem?_eq_getElem hjl))
 refine ⟨c', hcl, ?_, hcc⟩
 rw [show c' = rows[j] from hK.1]
 exact hk
theorem N_reads (h : N d e w base ok v xs) : ∃ A c, v = .slice A xs.length c ∧ xs.length ≤ c ∧ d.C w A xs.length xs := by
 obtain ⟨A, c, rfl⟩ := N_slice h
 exact ⟨A, c, rfl, (N_reads' h).2⟩
theorem N_F {n : Nat} (h : N d e w base ok (.slice A n cc) xs) : F d w ok A n xs := fun W' hW => by
 have h2 := N_reads' (qnT h hW)
 rw [h2.1]
 exact h2.2.2
end
end Kd
end Go.Proofs.YtmhomdohhihlcaaW.PrintWords
namespace Go.Proofs.YtmhomdohhihlcaaW.PrintWords
open Go.RowKit
section
variable {P : Program} {d : Nat} {xs ys : Array Value} {f : Field} {fs : List Field} {a b : Value} {r s : Bool} {w : World}
theorem qn5 (hn : (f.name == "_") = false) (ha : (part f.type xs f.offset).run P w = .ok a w) (hb : (part f.type ys f.offset).run P w = .ok b w) (he : (Op.equalIn d f.type a b).run P w = .ok r w) : (Op.eqFields d xs ys [f]).run P w = .ok r w := by
 have hn' : f.name ≠ "_" := by simpa using hn
 simp only [Op.eqFields, if_pos hn', Sem.run_bind, ha, hb, he, Result.andThen_ok]
 cases r <;> simp
theorem qqt (hn : (f.name == "_") = false) (ha : (part f.type xs f.offset).run P w = .ok a w) (hb : (part f.type ys f.offset).run P w = .ok b w) (he : (Op.equalIn d f.type a b).run P w = .ok r w) (hr : (Op.eqFields d xs ys fs).run P w = .ok s w) : (Op.eqFields d xs ys (f :: fs)).run P w = .ok (r && s) w := by
 have hn' : f.name ≠ "_" := by simpa using hn
 rw [Op.eqFields]
 simp only [if_pos hn', Sem.run_bind, ha, hb, he, Result.andThen_ok]
 cases r
 ·
  simp
 simpa using hr
theorem qp4 {t : TypeId} {fs : Array Field} (hu : P.underlying t = some (.struct fs)) (hp : P.stoodInHeld t = false) (h : (Op.eqFields d xs ys fs.toList).run P w = .ok r w) : (Op.equalIn (d + 1) t (.agg xs) (.agg ys)).run P w = .ok r w := by
 have hf : P.fieldsOf t = fs := by simp [Program.fieldsOf, hu]
 rw [run_equalIn_struct (P := P) w d t xs ys (by rw [hf]; exact hu) hp, hf]
 exact h
end
end Go.Proofs.YtmhomdohhihlcaaW.PrintWords
namespace Go.Proofs.YtmhomdohhihlcaaW.PrintWords
theorem Reps.one {α : Type} {R : α → List Value → Prop} {ps : List α} {cs : List Value} {p : α} {v : Value} (hp : R p [v]) (h : Reps R 1 ps cs) : Reps R 1 (p :: ps) (v :: cs) := by
 refine ⟨by simp [h.1], fun j q hq => ?_⟩
 cases j with
 | zero =>
  simp only [List.getElem?_cons_zero, Option.some.injEq] at hq
  subst hq
  simpa using hp
 | succ j =>
  simp only [List.getElem?_cons_succ] at hq
  have h1 := h.2 j q hq
  simpa [Nat.mul_one] using h1
theorem Reps.front {α : Type} {R : α → List Value → Prop} {size : Nat} {ps : List α} {cs c all : List Value} {p : α} (hp : R p c) (hc : c.length = size) (h : Reps R size ps cs) (ha : c ++ cs = all) : Reps R size (p :: ps) all := by
 subst ha
 refine ⟨by rw [List.length_append, hc, h.1, List.length_cons, Nat.succ_mul, Nat.add_comm], fun j q hq => ?_⟩
 cases j with
 | zero =>
  simp only [List.getElem?_cons_zero, Option.some.injEq] at hq
  subst hq
  rw [Nat.zero_mul, List.drop_zero, List.take_append_of_le_length (by omega), List.take_of_length_le (by omega)]
  exact hp
 | succ j =>
  simp only [List.getElem?_cons_succ] at hq
  have h1 := h.2 j q hq
  rw [Nat.succ_mul, List.drop_append, List.drop_of_length_le (by rw [hc]; exact Nat.le_add_left _ _), List.nil_append, hc, Nat.add_sub_cancel]
  exact h1
theorem Reps.c2 {α : Type} {R : α → List Value → Prop} {ps : List α} {cs : List Value} {p : α} {va vb : Value} (hp : R p [va, vb]) (h : Reps R 2 ps cs) : Reps R 2 (p :: ps) (va :: vb :: cs) := Reps.front hp rfl h rfl
theorem Reps.c3 {α : Type} {R : α → List Value → Prop} {ps : List α} {cs : List Value} {p : α} {va vb vc : Value} (hp : R p [va, vb, vc]) (h : Reps R 3 ps cs) : Reps R 3 (p :: ps) (va :: vb :: vc :: cs) := Reps.front hp rfl h rfl
theorem Reps.c5 {α : Type} {R : α → List Value → Prop} {ps : List α} {cs : List Value} {p : α} {va vb vc vd ve : Value} (hp : R p [va, vb, vc, vd, ve]) (h : Reps R 5 ps cs) : Reps R 5 (p :: ps) (va :: vb :: vc :: vd :: ve :: cs) := Reps.front hp rfl h rfl
end Go.Proofs.YtmhomdohhihlcaaW.PrintWords
namespace Go.Proofs.YtmhomdohhihlcaaW.PrintWords
open Go.RowKit
section
variable {P : Program} {ops : Array Oper} {rest : List Oper} {o : Oper} {a : Act} {Q : Exit → Act → World → Prop} {W : World}
theorem qdF (hw : Region.wanted o (yielded ops a.tmps) = true) (h : wpList P ops Q ({ o with guard := none } :: rest) a W) : wpList P ops Q (o :: rest) a W := by
 have h1 : Region.wanted { o with guard := none } (yielded ops a.tmps) = true := rfl
 unfold wpList at h ⊢
 rw [if_pos h1] at h
 rw [if_pos hw]
 exact h
end
end Go.Proofs.YtmhomdohhihlcaaW.PrintWords
namespace Go.Proofs.YtmhomdohhihlcaaW.PrintWords
open Go.RowKit
namespace Kd
section
variable {α : Type} {d : Kd α} {e base n cap g : Nat} {ok ok' okp : Nat → Prop} {w w1 W : World} {v v1 : Value} {xs ys : List α}
theorem qtw {rows : List (List Value)} (hR : (raw d.sz).R e w1 base (fun k => k = W.heap.size) v1 rows) (hg : W.grownBy w1 none) (hat : ∃ b, v1.ownBlock = some b ∧ W.heap.size ≤ b) (hl : rows.length = xs.length) (hf : ∀ (j : Nat) (x : α) (c : List Value), xs[j]? = some x → rows[j]? = some c → FK d W okp x c)
  (hok : ∀ k, okp k → ok k) (hfresh : ok W.heap.size) : N d e w1 base ok v1 xs := by
 obtain ⟨b, hb, hle⟩ := hat
 refine ⟨fun k hk => by rw [hR.1 k hk]; exact hfresh, rows, hl, qqj hR, fun j x c hx hc => ?_⟩
 refine qmo (qoy (qnR (hf j x c hx hc)) (fun k hk hlt => hg.block k hlt (by simp))) (fun k hk => ⟨hok k hk.1, fun he => ?_⟩)
 rw [hb] at he
 injection he with he
 have := hk.2
 omega
end
section
variable {P : Program} {ops : Array Oper} {rest : List Oper} {o : Oper} {a : Act} {Q : Exit → Act → World → Prop} {Kc : Act → World → Prop} {α : Type}
theorem N_lit (d : Kd α) {w0 W : World} (base e : Nat) (hgd : o.guard = none) {N' : Tmp} (_hd : o.dst = some N') {xs : List α} {inner : List Value} {ok okp : Nat → Prop}
  (hrun : (execOp a.eval o).run P W = .ok (.value (.slice (some ⟨W.heap.size, 0, none⟩) xs.length xs.length)) (W.alloc (.cells inner.toArray e)))
  (hrep : Reps (FK d W okp) d.sz xs inner) (hok : ∀ k, okp k → ok k) (hfresh : ok W.heap.size) (HB : Below base w0 W) (hbase : base ≤ W.heap.size) (hm : xs.length ≤ 9223372036854775807)
  (h : ∀ v1 w1, N d e w1 base ok v1 xs → Below base w0 w1 → W.grownBy w1 none → (∃ b, v1.ownBlock = some b ∧ W.heap.size ≤ b) → wpList P ops Q rest (a.put o.dst v1) w1) :
  wpList P ops Q (o :: rest) a W := by
 refine R_lit (raw d.sz) base e hgd _hd (xs := qie d.sz xs.length inner) (inner := inner) (ok := fun k => k = W.heap.size) (okp := fun _ => False) (by rw [qek]; exact hrun) (qoo hrep (fun y c hk => ⟨d.K_len (qnS hk), d.K_one (qnS hk)⟩)) (fun _ hk => hk.elim) rfl HB hbase (by rw [qek]; exact hm) ?_
 intro v1 w1 hr hb hg hat
 exact h v1 w1 (qtw hr hg hat (qek _ _ _) (fun j y c hy hc => by rw [qj3 hc]; exact hrep.2 j y hy) hok hfresh) hb hg hat
end
end Kd
end Go.Proofs.YtmhomdohhihlcaaW.PrintWords
namespace Go.Proofs.YtmhomdohhihlcaaW.PrintMore
open Go.RowKit Go.Proofs.YtmhomdohhihlcaaW.PrintWords
namespace Kd
open Go.Proofs.YtmhomdohhihlcaaW.PrintWords.Kd
section
variable {α : Type} {d : Kd α} {e base g N : Nat} {ok : Nat → Prop} {W w1 : World} {u v : Value} {xs : List α}
theorem R_old (hu : d.R e W base ok u xs) (hb : Below W.heap.size W w1) : d.R e w1 base (fun k => ok k ∧ k < W.heap.size) u xs :=
 R_mono (R_below (R_bound hu) hb) (fun _ h => ⟨h.1, h.2.2.1⟩)
theorem R_told (h : d.R e w1 base (fun k => ok k ∧ k < N) u xs) (hbase : ∀ k, v.ownBlock = some k → N ≤ k) : d.R e w1 base (fun k => (ok k ∧ some k ≠ v.ownBlock) ∧ k < N) u xs :=
 R_mono h (fun k hk => ⟨⟨hk.1, fun e => Nat.lt_irrefl _ (Nat.lt_of_lt_of_le hk.2 (hbase k e.symm))⟩, hk.2⟩)
end
end Kd
theorem qb2 (k k' : IntKind) (x y : Int) : Builtin.max2 (.int k x) (.int k' y) = pure (.int k (if x < y then y else x)) := by simp only [Builtin.max2, gt_iff_lt]
theorem qb4 (k k' : IntKind) (x y : Int) : Builtin.min2 (.int k x) (.int k' y) = pure (.int k (if y < x then y else x)) := by simp only [Builtin.min2]
theorem qcg (ats : Array TypeId) (ty : TypeId) (a b : Value) : Builtin.max_ ats ty #[a, b] = (Builtin.max2 a b >>= fun s => pure s) := by simp only [Builtin.max_, List.foldlM_cons, List.foldlM_nil]
theorem qch (ats : Array TypeId) (ty : TypeId) (a b : Value) : Builtin.min_ ats ty #[a, b] = (Builtin.min2 a b >>= fun s => pure s) := by simp only [Builtin.min_, List.foldlM_cons, List.foldlM_nil]
theorem qbQ (ats : Array TypeId) (ty : TypeId) (a b c : Value) : Builtin.max_ ats ty #[a, b, c] = (Builtin.max2 a b >>= fun s => Builtin.max2 s c >>= fun s => pure s) := by simp only [Builtin.max_, List.foldlM_cons, List.foldlM_nil]
theorem qbR (ats : Array TypeId) (ty : TypeId) (a b c : Value) : Builtin.min_ ats ty #[a, b, c] = (Builtin.min2 a b >>= fun s => Builtin.min2 s c >>= fun s => pure s) := by simp only [Builtin.min_, List.foldlM_cons, List.foldlM_nil]
theorem qb3 (ats : Array TypeId) (ty : TypeId) (a b c d : Value) : Builtin.max_ ats ty #[a, b, c, d] = (Builtin.max2 a b >>= fun s => Builtin.max2 s c >>= fun s => Builtin.max2 s d >>= fun s => pure s) := by simp only [Builtin.max_, List.foldlM_cons, List.foldlM_nil]
theorem qb5 (ats : Array TypeId) (ty : TypeId) (a b c d : Value) : Builtin.min_ ats ty #[a, b, c, d] = (Builtin.min2 a b >>= fun s => Builtin.min2 s c >>= fun s => Builtin.min2 s d >>= fun s => pure s) := by simp only [Builtin.min_, List.foldlM_cons, List.foldlM_nil]
end Go.Proofs.YtmhomdohhihlcaaW.PrintMore
namespace Go.Proofs.YtmhomdohhihlcaaW.PrintWords
open Go.RowKit
section
variable {P : Program} {ops : Array Oper} {rest : List Oper} {o : Oper} {a : Act} {Q : Exit → Act → World → Prop} {W : World}
theorem qaT {f : FuncId} {aas : Array Operand} {ts : Array TypeId} (_ho : o.op = .call { callee := .value (.func f), args := aas, argTypes := ts }) (h : wpList P ops Q (o :: rest) a W) : wpList P ops Q (o :: rest) a W := h
end
def mx (a b : Int) : Int := if a < b then b else a
def mn (a b : Int) : Int := if b < a then b else a
def shl (k : IntKind) (x y : Int) : Int := k.wrap (x * 2 ^ min y.toNat k.bits)
def shr (k : IntKind) (x y : Int) : Int := x / 2 ^ min y.toNat k.bits
theorem qqn {k : IntKind} {x y j : Int} (h : shl k x y = j) (hy : y ≤ k.bits) : k.wrap (x * 2 ^ y.toNat) = j := by rw [← h]; unfold shl; rw [Nat.min_eq_left (by omega)]
theorem qqo {k : IntKind} {x y j : Int} (h : shr k x y = j) (hy : y ≤ k.bits) : x / 2 ^ y.toNat = j := by rw [← h]; unfold shr; rw [Nat.min_eq_left (by omega)]
theorem qj4 (w : World) (n : Nat) : w.drewN n = w.drewN n := rfl
end Go.Proofs.YtmhomdohhihlcaaW.PrintWords
namespace Go.Proofs.YtmhomdohhihlcaaW.PrintWords
open Go.RowKit
namespace Kd
def V {α : Type} (d : Kd α) (_e : Nat) (W : World) (_base : Nat) (ok : Nat → Prop) (v : Value) (xs : List α) : Prop := ∃ A c, v = .slice A xs.length c ∧ xs.length ≤ c ∧ F d W ok A xs.length xs
section
variable {α β : Type} {d : Kd α} {e base base' n m c g N' lo hi : Nat} {ok ok' S : Nat → Prop} {w W w1 : World} {A : Option Addr} {ad : Addr} {u v v1 : Value} {xs : List α}
theorem V_nil (d : Kd α) (e : Nat) (W : World) (base : Nat) (ok : Nat → Prop) : V d e W base ok (.slice none 0 0) [] := ⟨none, 0, rfl, Nat.le_refl _, qtZ d W ok⟩
theorem R_V (h : d.R e W base ok v xs) : V d e W base' ok v xs := by
 obtain ⟨A, c, rfl⟩ := R_slice h
 exact ⟨A, c, rfl, (R_reads' h).2.1, R_F h⟩
theorem FK_slice_mk {l : List α} (hl : l.length ≤ c) (hf : F d W ok A l.length l) : FK (Kd.slice e d) W ok l [.slice A l.length c] := fun W' hW => ⟨A, c, rfl, hl, hf W' hW⟩
theorem R_newM {M : Nat → Prop} (h : d.R e w1 W.heap.size ok v xs) (hle : w.heap.size ≤ W.heap.size) (hM : ∀ k, w.heap.size ≤ k → M k) : d.R e w1 W.heap.size (fun k => M k ∧ ok k) v xs := R_mono (R_bound h) (fun k hk => ⟨hM k (Nat.le_trans hle hk.2.1), hk.1⟩)
end
end Kd
end Go.Proofs.YtmhomdohhihlcaaW.PrintWords
namespace Go.Proofs.Ytmhomdohhihlcaa.P
open Go.RowKit Go.Proofs.YtmhomdohhihlcaaW.PrintWords Go.Proofs.YtmhomdohhihlcaaW.PrintLast Go.Proofs.YtmhomdohhihlcaaW.PrintMore
universe u
def qqi : Nat → Nat → List Bool
 | 0, _ => []
 | n + 1, m => (Nat.beq (m % 2) 1) :: qqi n (m / 2)
abbrev qas (n m : Nat) : Array Bool := (qqi n m).toArray
theorem qaq (a : Act) (v : Value) (d : Tmp) : a.put (some d) v = { tmps := a.tmps.setIfInBounds d v, defers := a.defers } := rfl
theorem qam (a : Act) (v : Value) : a.put none v = a := rfl
theorem qap {α : Type u} (l : List α) (i : Nat) (a : α) : l.toArray.setIfInBounds i a = (l.set i a).toArray := List.setIfInBounds_toArray l i a
theorem qao {α : Type u} {x : α} {xs : List α} {a : α} : (x :: xs).set 0 a = a :: xs := rfl
theorem qan {α : Type u} {x : α} {xs : List α} {i : Nat} {a : α} : (x :: xs).set (i + 1) a = x :: xs.set i a := rfl
theorem qax {P : Program} {ops : Array Oper} {Q : Exit → Act → World → Prop} {md : Region.Mode} {S : World → Prop} {ds : List Nat} {T : Bool × List (List Nat × List Nat)} {oi : Oper} {v : Value} {fuel : Nat} {l : Array Bool} {a a' : Act} {w : World} (i : Nat) (N : Option Tmp) (l' : Array Bool) (hi : ops[i]? = some oi) (hN : oi.dst = N) (hT : rtab md ops = T) (hc : anyT T l.toList l'.toList i = true)
  (hQ : ∀ c a w, Q (.panic c) (a.put oi.dst v) w → Q (.panic c) a w) (h : Yields P ops oi v a ∧ a.put N v = a' ∧ qbK P md ops Q S ds fuel l' a' w) : qbK P md ops Q S ds (fuel + 1) l a w := qnJ l' hi hN (qty hT hc) hQ h.1 h.2.1 h.2.2
theorem qcD {P : Program} {ops : Array Oper} {Q : Exit → Act → World → Prop} {md : Region.Mode} {S : World → Prop} {ds : List Nat} {oi : Oper} {v : Value} {fuel : Nat} {l : Array Bool} {a a' : Act} {w : World} (i : Nat) (N : Option Tmp) (l' : Array Bool) (hi : ops[i]? = some oi) (hN : oi.dst = N) (hc : qlc md ops ds l l' i = true)
  (hQ : ∀ c a w, Q (.panic c) (a.put oi.dst v) w → Q (.panic c) a w) (hS : S w) (h : YieldsIf P ops S oi v a ∧ a.put N v = a' ∧ qbK P md ops Q S ds fuel l' a' w) : qbK P md ops Q S ds (fuel + 1) l a w := qrG l' hi hN hc hQ h.1 hS h.2.1 h.2.2
attribute [local go_sem] qb2 qb4 qcg qch qbQ qbR qb3 qb5
def errW : Option Int → Value
 | none => .nilIface
 | some c => .iface 0 (.int .i64 c)
theorem qaO : errW none = .nilIface := rfl
theorem qaP (c : Int) : errW (some c) = .iface 0 (.int .i64 c) := rfl
theorem qi3 : (Try.prog.info? 3).map (fun i => (i.zero, i.size, i.bytes)) = some (some (.int .i64 0), 1, 8) := by kernel_rfl
theorem qqa : (Try.prog.info? 25).map (fun i => (i.zero, i.size, i.bytes)) = some (some (.agg #[(.int .i64 0), (.int .i64 0)]), 2, 16) := by kernel_rfl
structure S25 where
 f0 : Int
 f1 : Int
def z25 : S25 := ⟨(0 : Int), (0 : Int)⟩
def k25 : Kd S25 := Kd.iso (Kd.pair (Kd.int .i64) (Kd.int .i64)) (fun x : S25 => (x.f0, x.f1))
theorem qlp {w : World} {x : S25} {cs : List Value} (h : k25.K w x cs) : cs = [.int .i64 x.f0, .int .i64 x.f1] := by
 obtain ⟨_, _, rfl, rfl, rfl⟩ := h
 exact rfl
theorem qqc {w : World} {base : Nat} {ok : Nat → Prop} {x : S25} {cs : List Value} (h : k25.M w base ok x cs) : cs = [.int .i64 x.f0, .int .i64 x.f1] := by
 obtain ⟨_, _, rfl, rfl, rfl⟩ := h
 exact rfl
theorem qog (w : World) (x : S25)  : k25.K w x [.int .i64 x.f0, .int .i64 x.f1] := ⟨[.int .i64 x.f0], [.int .i64 x.f1], rfl, rfl, rfl⟩
theorem qgI (w : World) (base : Nat) (ok : Nat → Prop) (x : S25)  : k25.M w base ok x [.int .i64 x.f0, .int .i64 x.f1] := ⟨[.int .i64 x.f0], [.int .i64 x.f1], rfl, rfl, rfl⟩
def qbG (xs : List S25) (i : Int) : S25 := xs.getD i.toNat z25
theorem qhC {w : World} {A : Option Addr} {n : Nat} {xs : List S25} (h : Kd.C k25 w A n xs) (i : Int) (h0 : 0 ≤ i) (h1 : i < n) : ∃ ad , A = some ad ∧ w.cell? (ad.add (i.toNat * 2)) = some (.int .i64 (qbG xs i).f0) ∧ w.cell? ⟨(ad.add (i.toNat * 2)).block, (ad.add (i.toNat * 2)).off + 1, none⟩ = some (.int .i64 (qbG xs i).f1) := by
 obtain ⟨ad, c, e, _, hK, hc0⟩ := Kd.C_get h z25 i h0 h1
 have hc : ∀ j u, c[j]? = some u → w.cell? (ad.add (i.toNat * 2 + j)) = some u := hc0
 obtain rfl := qlp hK
 exact ⟨ad, e, hc 0 _ rfl, by rw [← qfO _ _ 1 (by omega)]; exact hc 1 _ rfl⟩
structure S68 where
 f0 : Int
 f1 : S25
def z68 : S68 := ⟨(0 : Int), z25⟩
def k68 : Kd S68 := Kd.iso (Kd.pair (Kd.int .i64) k25) (fun x : S68 => (x.f0, x.f1))
theorem qqG {w : World} {x : S68} {cs : List Value} (h : k68.K w x cs) : cs = [.int .i64 x.f0, .int .i64 x.f1.f0, .int .i64 x.f1.f1] := by
 obtain ⟨_, _, rfl, rfl, s1⟩ := h
 obtain rfl := qlp s1
 exact rfl
theorem qtU (w : World) (x : S68)  : k68.K w x [.int .i64 x.f0, .int .i64 x.f1.f0, .int .i64 x.f1.f1] := ⟨[.int .i64 x.f0], [.int .i64 x.f1.f0, .int .i64 x.f1.f1], rfl, rfl, (qog w x.f1 )⟩
theorem qm0 (w : World) (base : Nat) (ok : Nat → Prop) (x : S68)  : k68.M w base ok x [.int .i64 x.f0, .int .i64 x.f1.f0, .int .i64 x.f1.f1] := ⟨[.int .i64 x.f0], [.int .i64 x.f1.f0, .int .i64 x.f1.f1], rfl, rfl, (qgI w base ok x.f1 )⟩
def qaw (xs : List S68) (i : Int) : S68 := xs.getD i.toNat z68
theorem qcZ {w : World} {A : Option Addr} {n : Nat} {xs : List S68} (h : Kd.C k68 w A n xs) (i : Int) (h0 : 0 ≤ i) (h1 : i < n) : ∃ ad , A = some ad ∧ w.cell? (ad.add (i.toNat * 3)) = some (.int .i64 (qaw xs i).f0) ∧ w.cell? ⟨(ad.add (i.toNat * 3)).block, (ad.add (i.toNat * 3)).off + 1, none⟩ = some (.int .i64 (qaw xs i).f1.f0) ∧ w.cell? ⟨(ad.add (i.toNat * 3)).block, (ad.add (i.toNat * 3)).off + 2, none⟩ = some (.int .i64 (qaw xs i).f1.f1) := by
 obtain ⟨ad, c, e, _, hK, hc0⟩ := Kd.C_get h z68 i h0 h1
 have hc : ∀ j u, c[j]? = some u → w.cell? (ad.add (i.toNat * 3 + j)) = some u := hc0
 obtain rfl := qqG hK
 exact ⟨ad, e, hc 0 _ rfl, by rw [← qfO _ _ 1 (by omega)]; exact hc 1 _ rfl, by rw [← qfO _ _ 2 (by omega)]; exact hc 2 _ rfl⟩
def qdp (xs : List (List S25)) (i : Int) : (List S25) := xs.getD i.toNat ([] : List S25)
theorem qpt {w : World} {A : Option Addr} {n : Nat} {xs : List (List S25)} (h : Kd.C (Kd.slice 25 k25) w A n xs) (i : Int) (h0 : 0 ≤ i) (h1 : i < n) : ∃ ad A0 c0, A = some ad ∧ w.cell? (ad.add i.toNat) = some (.slice A0 (qdp xs i).length c0) ∧ (qdp xs i).length ≤ c0 ∧ k25.C w A0 (qdp xs i).length (qdp xs i) := by
 obtain ⟨ad, c, e, _, hK, hc0⟩ := Kd.C_get h ([] : List S25) i h0 h1
 have hc : ∀ j u, c[j]? = some u → w.cell? (ad.add (i.toNat * 1 + j)) = some u := hc0
 obtain ⟨A0, c0, rfl, l0, g0⟩ := hK
 exact ⟨ad, A0, c0, e, by have hq := hc 0 _ rfl; rwa [Nat.mul_one, Nat.add_zero] at hq, l0, g0⟩
def qa2 (xs : List (List Int)) (i : Int) : (List Int) := xs.getD i.toNat ([] : List Int)
theorem qnF {w : World} {A : Option Addr} {n : Nat} {xs : List (List Int)} (h : Kd.C (Kd.slice 3 (Kd.int .i64)) w A n xs) (i : Int) (h0 : 0 ≤ i) (h1 : i < n) : ∃ ad A0 c0, A = some ad ∧ w.cell? (ad.add i.toNat) = some (.slice A0 (qa2 xs i).length c0) ∧ (qa2 xs i).length ≤ c0 ∧ (Kd.int .i64).C w A0 (qa2 xs i).length (qa2 xs i) := by
 obtain ⟨ad, c, e, _, hK, hc0⟩ := Kd.C_get h ([] : List Int) i h0 h1
 have hc : ∀ j u, c[j]? = some u → w.cell? (ad.add (i.toNat * 1 + j)) = some u := hc0
 obtain ⟨A0, c0, rfl, l0, g0⟩ := hK
 exact ⟨ad, A0, c0, e, by have hq := hc 0 _ rfl; rwa [Nat.mul_one, Nat.add_zero] at hq, l0, g0⟩
structure S39 where
 f0 : (List Int)
 f1 : (List Int)
 f2 : (List Int)
 f3 : Int
 f4 : Int
def z39 : S39 := ⟨([] : List Int), ([] : List Int), ([] : List Int), (0 : Int), (0 : Int)⟩
def k39 : Kd S39 := Kd.iso (Kd.pair (Kd.slice 3 (Kd.int .i64)) (Kd.pair (Kd.slice 3 (Kd.int .i64)) (Kd.pair (Kd.slice 3 (Kd.int .i64)) (Kd.pair (Kd.int .i64) (Kd.int .i64))))) (fun x : S39 => (x.f0, x.f1, x.f2, x.f3, x.f4))
theorem qqF {w : World} {x : S39} {cs : List Value} (h : k39.K w x cs) : ∃ A0 c0 A1 c1 A2 c2, cs = [.slice A0 x.f0.length c0, .slice A1 x.f1.length c1, .slice A2 x.f2.length c2, .int .i64 x.f3, .int .i64 x.f4] ∧ x.f0.length ≤ c0 ∧ (Kd.int .i64).C w A0 x.f0.length x.f0 ∧ x.f1.length ≤ c1 ∧ (Kd.int .i64).C w A1 x.f1.length x.f1 ∧ x.f2.length ≤ c2 ∧ (Kd.int .i64).C w A2 x.f2.length x.f2 := by
 obtain ⟨_, _, rfl, ⟨A0, c0, rfl, l0, g0⟩, ⟨_, _, rfl, ⟨A1, c1, rfl, l1, g1⟩, ⟨_, _, rfl, ⟨A2, c2, rfl, l2, g2⟩, ⟨_, _, rfl, rfl, rfl⟩⟩⟩⟩ := h
 exact ⟨A0, c0, A1, c1, A2, c2, rfl, l0, g0, l1, g1, l2, g2⟩
theorem qtT (w : World) (x : S39) {A0 : Option Addr} {c0 : Nat} (l0 : x.f0.length ≤ c0) (g0 : (Kd.int .i64).C w A0 x.f0.length x.f0) {A1 : Option Addr} {c1 : Nat} (l1 : x.f1.length ≤ c1) (g1 : (Kd.int .i64).C w A1 x.f1.length x.f1) {A2 : Option Addr} {c2 : Nat} (l2 : x.f2.length ≤ c2) (g2 : (Kd.int .i64).C w A2 x.f2.length x.f2) : k39.K w x [.slice A0 x.f0.length c0, .slice A1 x.f1.length c1, .slice A2 x.f2.length c2, .int .i64 x.f3, .int .i64 x.f4] := ⟨[.slice A0 x.f0.length c0], [.slice A1 x.f1.length c1, .slice A2 x.f2.length c2, .int .i64 x.f3, .int .i64 x.f4], rfl, ⟨A0, c0, rfl, l0, g0⟩, ⟨[.slice A1 x.f1.length c1], [.slice A2 x.f2.length c2, .int .i64 x.f3, .int .i64 x.f4], rfl, ⟨A1, c1, rfl, l1, g1⟩, ⟨[.slice A2 x.f2.length c2], [.int .i64 x.f3, .int .i64 x.f4], rfl, ⟨A2, c2, rfl, l2, g2⟩, ⟨[.int .i64 x.f3], [.int .i64 x.f4], rfl, rfl, rfl⟩⟩⟩⟩
theorem qo6 (W : World) (ok : Nat → Prop) (x : S39) {A0 : Option Addr} {c0 : Nat} (l0 : x.f0.length ≤ c0) (g0 : Kd.F (Kd.int .i64) W ok A0 x.f0.length x.f0) {A1 : Option Addr} {c1 : Nat} (l1 : x.f1.length ≤ c1) (g1 : Kd.F (Kd.int .i64) W ok A1 x.f1.length x.f1) {A2 : Option Addr} {c2 : Nat} (l2 : x.f2.length ≤ c2) (g2 : Kd.F (Kd.int .i64) W ok A2 x.f2.length x.f2) : Kd.FK k39 W ok x [.slice A0 x.f0.length c0, .slice A1 x.f1.length c1, .slice A2 x.f2.length c2, .int .i64 x.f3, .int .i64 x.f4] := fun W2 hW => qtT W2 x l0 (g0 W2 hW) l1 (g1 W2 hW) l2 (g2 W2 hW)
def qal (xs : List S39) (i : Int) : S39 := xs.getD i.toNat z39
theorem qnY {w : World} {A : Option Addr} {n : Nat} {xs : List S39} (h : Kd.C k39 w A n xs) (i : Int) (h0 : 0 ≤ i) (h1 : i < n) : ∃ ad A0 c0 A1 c1 A2 c2, A = some ad ∧ w.cell? (ad.add (i.toNat * 5)) = some (.slice A0 (qal xs i).f0.length c0) ∧ w.cell? ⟨(ad.add (i.toNat * 5)).block, (ad.add (i.toNat * 5)).off + 1, none⟩ = some (.slice A1 (qal xs i).f1.length c1) ∧ w.cell? ⟨(ad.add (i.toNat * 5)).block, (ad.add (i.toNat * 5)).off + 2, none⟩ = some (.slice A2 (qal xs i).f2.length c2) ∧ w.cell? ⟨(ad.add (i.toNat * 5)).block, (ad.add (i.toNat * 5)).off + 3, none⟩ = some (.int .i64 (qal xs i).f3) ∧ w.cell? ⟨(ad.add (i.toNat * 5)).block, (ad.add (i.toNat * 5)).off + 4, none⟩ = some (.int .i64 (qal xs i).f4) ∧ (qal xs i).f0.length ≤ c0 ∧ (Kd.int .i64).C w A0 (qal xs i).f0.length (qal xs i).f0 ∧ (qal xs i).f1.length ≤ c1 ∧ (Kd.int .i64).C w A1 (qal xs i).f1.length (qal xs i).f1 ∧ (qal xs i).f2.length ≤ c2 ∧ (Kd.int .i64).C w A2 (qal xs i).f2.length (qal xs i).f2 := by
 obtain ⟨ad, c, e, _, hK, hc0⟩ := Kd.C_get h z39 i h0 h1
 have hc : ∀ j u, c[j]? = some u → w.cell? (ad.add (i.toNat * 5 + j)) = some u := hc0
 obtain ⟨A0, c0, A1, c1, A2, c2, rfl, l0, g0, l1, g1, l2, g2⟩ := qqF hK
 exact ⟨ad, A0, c0, A1, c1, A2, c2, e, hc 0 _ rfl, by rw [← qfO _ _ 1 (by omega)]; exact hc 1 _ rfl, by rw [← qfO _ _ 2 (by omega)]; exact hc 2 _ rfl, by rw [← qfO _ _ 3 (by omega)]; exact hc 3 _ rfl, by rw [← qfO _ _ 4 (by omega)]; exact hc 4 _ rfl, l0, g0, l1, g1, l2, g2⟩
def qaM (xs : List (List (List Int))) (i : Int) : (List (List Int)) := xs.getD i.toNat ([] : List (List Int))
theorem qpu {w : World} {A : Option Addr} {n : Nat} {xs : List (List (List Int))} (h : Kd.C (Kd.slice 37 (Kd.slice 3 (Kd.int .i64))) w A n xs) (i : Int) (h0 : 0 ≤ i) (h1 : i < n) : ∃ ad A0 c0, A = some ad ∧ w.cell? (ad.add i.toNat) = some (.slice A0 (qaM xs i).length c0) ∧ (qaM xs i).length ≤ c0 ∧ (Kd.slice 3 (Kd.int .i64)).C w A0 (qaM xs i).length (qaM xs i) := by
 obtain ⟨ad, c, e, _, hK, hc0⟩ := Kd.C_get h ([] : List (List Int)) i h0 h1
 have hc : ∀ j u, c[j]? = some u → w.cell? (ad.add (i.toNat * 1 + j)) = some u := hc0
 obtain ⟨A0, c0, rfl, l0, g0⟩ := hK
 exact ⟨ad, A0, c0, e, by have hq := hc 0 _ rfl; rwa [Nat.mul_one, Nat.add_zero] at hq, l0, g0⟩
structure S136 where
 f0 : Int
 f1 : Int
def z136 : S136 := ⟨(0 : Int), (0 : Int)⟩
def k136 : Kd S136 := Kd.iso (Kd.pair (Kd.int .i64) (Kd.int .i64)) (fun x : S136 => (x.f0, x.f1))
theorem qqb {w : World} {x : S136} {cs : List Value} (h : k136.K w x cs) : cs = [.int .i64 x.f0, .int .i64 x.f1] := by
 obtain ⟨_, _, rfl, rfl, rfl⟩ := h
 exact rfl
theorem qj5 (w : World) (base : Nat) (ok : Nat → Prop) (x : S136)  : k136.M w base ok x [.int .i64 x.f0, .int .i64 x.f1] := ⟨[.int .i64 x.f0], [.int .i64 x.f1], rfl, rfl, rfl⟩
def qeK (xs : List S136) (i : Int) : S136 := xs.getD i.toNat z136
theorem qoD {w : World} {A : Option Addr} {n : Nat} {xs : List S136} (h : Kd.C k136 w A n xs) (i : Int) (h0 : 0 ≤ i) (h1 : i < n) : ∃ ad , A = some ad ∧ w.cell? (ad.add (i.toNat * 2)) = some (.int .i64 (qeK xs i).f0) ∧ w.cell? ⟨(ad.add (i.toNat * 2)).block, (ad.add (i.toNat * 2)).off + 1, none⟩ = some (.int .i64 (qeK xs i).f1) := by
 obtain ⟨ad, c, e, _, hK, hc0⟩ := Kd.C_get h z136 i h0 h1
 have hc : ∀ j u, c[j]? = some u → w.cell? (ad.add (i.toNat * 2 + j)) = some u := hc0
 obtain rfl := qqb hK
 exact ⟨ad, e, hc 0 _ rfl, by rw [← qfO _ _ 1 (by omega)]; exact hc 1 _ rfl⟩
end Go.Proofs.Ytmhomdohhihlcaa.P
namespace Go.Proofs.Ytmhomdohhihlcaa.P
open Go.RowKit Go.Proofs.YtmhomdohhihlcaaW.PrintWords Go.Proofs.YtmhomdohhihlcaaW.PrintLast Go.Proofs.YtmhomdohhihlcaaW.PrintMore
attribute [local go_sem] qb2 qb4 qcg qch qbQ qbR qb3 qb5
theorem qnG (d : Nat) (w : World) (x0 y0 : Int) (x1 y1 : Int) :
  (Op.equalIn (d + 2) 25 (.agg #[.int .i64 x0, .int .i64 x1]) (.agg #[.int .i64 y0, .int .i64 y1])).run Try.prog w = .ok (x0 == y0 && (x1 == y1)) w := by
 refine qp4 Try.underlying25 (by kernel_rfl) ?_
 refine qqt (by rfl) (by go_simp; rfl) (by go_simp; rfl) (by go_simp) ?_
 exact qn5 (by rfl) (by go_simp; rfl) (by go_simp; rfl) (by go_simp)
end Go.Proofs.Ytmhomdohhihlcaa.P
namespace Go.Proofs.Ytmhomdohhihlcaa.P
open Go.RowKit Go.Proofs.YtmhomdohhihlcaaW.PrintWords Go.Proofs.YtmhomdohhihlcaaW.PrintLast Go.Proofs.YtmhomdohhihlcaaW.PrintMore
attribute [local go_sem] qb2 qb4 qcg qch qbQ qbR qb3 qb5
def qaD.f (a0 : Int) (a1 : Int) (a2 : Int) : Option (Bool) := if a1 ≤ a0 then (some (decide (a0 ≤ a2))) else (some false)
set_option maxHeartbeats 8000000 in
set_option maxRecDepth 100000 in
theorem qaD.calls (a0 : Int) (a1 : Int) (a2 : Int) (r : Bool) (w : World) (h : qaD.f a0 a1 a2 = some r) :
  Calls Try.prog 65 #[.int .i64 a0, .int .i64 a1, .int .i64 a2] w fun e w' => e = .returned (.bool r) ∧ qbF w w' := by
 have H : (if a1 ≤ a0 then (some (decide (a0 ≤ a2))) else (some false)) = some r := h
 clear h
 by_cases c4 : a1 ≤ a0
 ·
  rw [if_pos c4] at H
  have c4b0 : decide (a1 ≤ a0) = true := decide_eq_true c4
  clear c4
  obtain rfl := Option.some.inj H
  go_enter Try.func65, Try.ntmps65
  go_wp2
  go_ret
  exact ⟨by first | rfl | (simp; done) | (simp [*]; done), by repeat (first | exact qbF.refl _ | apply qbF.step)⟩
 rw [if_neg c4] at H
 have c4b0 : decide (a1 ≤ a0) = false := decide_eq_false c4
 clear c4
 obtain rfl := Option.some.inj H
 go_enter Try.func65, Try.ntmps65
 go_wp2
 go_ret
 exact ⟨by first | rfl | (simp; done) | (simp [*]; done), by repeat (first | exact qbF.refl _ | apply qbF.step)⟩
end Go.Proofs.Ytmhomdohhihlcaa.P
namespace Go.Proofs.Ytmhomdohhihlcaa.P
open Go.RowKit Go.Proofs.YtmhomdohhihlcaaW.PrintWords Go.Proofs.YtmhomdohhihlcaaW.PrintLast Go.Proofs.YtmhomdohhihlcaaW.PrintMore
attribute [local go_sem] qb2 qb4 qcg qch qbQ qbR qb3 qb5
def qdt.f (a0_0 : Int) (a0_1 : Int) (a1 : Int) : Option (Bool) := if 0 ≤ a0_0 then (if a0_0 ≤ a0_1 then (some (decide (a0_1 ≤ a1))) else (some false)) else (some false)
set_option maxHeartbeats 8000000 in
set_option maxRecDepth 100000 in
theorem qdt.calls (a0_0 : Int) (a0_1 : Int) (a1 : Int) (r : Bool) (w : World) (h : qdt.f a0_0 a0_1 a1 = some r) :
  Calls Try.prog 66 #[.agg #[.int .i64 a0_0, .int .i64 a0_1], .int .i64 a1] w fun e w' => e = .returned (.bool r) ∧ Below w.heap.size w w' := by
 have hu25 := Try.underlying25
 have HB := qaa.mk (Below.refl w.heap.size w)
 have H : (if 0 ≤ a0_0 then (if a0_0 ≤ a0_1 then (some (decide (a0_1 ≤ a1))) else (some false)) else (some false)) = some r := h
 clear h
 by_cases c3 : 0 ≤ a0_0
 ·
  rw [if_pos c3] at H
  have c3b0 : decide (0 ≤ a0_0) = true := decide_eq_true c3
  clear c3
  by_cases c4 : a0_0 ≤ a0_1
  ·
   rw [if_pos c4] at H
   have c4b0 : decide (a0_0 ≤ a0_1) = true := decide_eq_true c4
   clear c4
   obtain rfl := Option.some.inj H
   go_enter Try.func66, Try.ntmps66
   go_wp2_with (first | ((with_reducible refine qa1 (N := 2) rfl ?_); refine qbq ?hg (N := 2) ?hd (cs := #[.int .i64 a0_0, .int .i64 a0_1]) (t := 25) ?hr ?_; (case hd => rfl); (case hg => rfl); (case hr => first | (go_simp; done) | (go_simp; rfl)); intro qf3 hg w5 hbox hb; have n0_ := qaa.mk (qaA (by repeat (first | (with_reducible first | exact HB.out | apply qag | apply qad | apply qah) | exact HB.out)) hb); have n1_ := qaa.mk (hbox); have n2_ := qaa.mk ((by rw [hg]; exact (qav (by repeat (first | (with_reducible first | exact HB.out | apply qag | apply qad | apply qah) | exact HB.out))) : w.heap.size ≤ qf3)); have n3_ := qaa.mk ((by rw [hg]; exact (qav (by repeat (first | (with_reducible first | exact HB.out | apply qag | apply qad | apply qah) | exact HB.out))) : w.heap.size ≤ qf3)); clear HB; have HB := n0_; have qf0 := n1_; have qqS := n2_; have qls := n3_; clear n0_ n1_ n2_ n3_; clear hb hbox hg; have qiN : w5.cell? ⟨qf3, 0, none⟩ = some (.int .i64 a0_0) := (qai qf0.out 0).trans rfl; have qiO : w5.cell? ⟨qf3, 1, none⟩ = some (.int .i64 a0_1) := (qai qf0.out 1).trans rfl; have qiP := qaj qf0.out 0; have qiQ := qaj qf0.out 1))
   go_ret
   exact ⟨by first | rfl | (simp [qaO, qaP] <;> rfl) | (simp [*, qaO, qaP] <;> rfl), by repeat (first | (with_reducible first | exact HB.out | apply qag | apply qad | apply qah | refine qaf ?_ qls.out) | exact HB.out)⟩
  rw [if_neg c4] at H
  have c4b0 : decide (a0_0 ≤ a0_1) = false := decide_eq_false c4
  clear c4
  obtain rfl := Option.some.inj H
  go_enter Try.func66, Try.ntmps66
  go_wp2_with (first | ((with_reducible refine qa1 (N := 2) rfl ?_); refine qbq ?hg (N := 2) ?hd (cs := #[.int .i64 a0_0, .int .i64 a0_1]) (t := 25) ?hr ?_; (case hd => rfl); (case hg => rfl); (case hr => first | (go_simp; done) | (go_simp; rfl)); intro qf3 hg w7 hbox hb; have n0_ := qaa.mk (qaA (by repeat (first | (with_reducible first | exact HB.out | apply qag | apply qad | apply qah) | exact HB.out)) hb); have n1_ := qaa.mk (hbox); have n2_ := qaa.mk ((by rw [hg]; exact (qav (by repeat (first | (with_reducible first | exact HB.out | apply qag | apply qad | apply qah) | exact HB.out))) : w.heap.size ≤ qf3)); have n3_ := qaa.mk ((by rw [hg]; exact (qav (by repeat (first | (with_reducible first | exact HB.out | apply qag | apply qad | apply qah) | exact HB.out))) : w.heap.size ≤ qf3)); clear HB; have HB := n0_; have qf0 := n1_; have qqS := n2_; have qls := n3_; clear n0_ n1_ n2_ n3_; clear hb hbox hg; have qoa : w7.cell? ⟨qf3, 0, none⟩ = some (.int .i64 a0_0) := (qai qf0.out 0).trans rfl; have qob : w7.cell? ⟨qf3, 1, none⟩ = some (.int .i64 a0_1) := (qai qf0.out 1).trans rfl; have qoe := qaj qf0.out 0; have qof := qaj qf0.out 1))
  go_ret
  exact ⟨by first | rfl | (simp [qaO, qaP] <;> rfl) | (simp [*, qaO, qaP] <;> rfl), by repeat (first | (with_reducible first | exact HB.out | apply qag | apply qad | apply qah | refine qaf ?_ qls.out) | exact HB.out)⟩
 rw [if_neg c3] at H
 have c3b0 : decide (0 ≤ a0_0) = false := decide_eq_false c3
 clear c3
 obtain rfl := Option.some.inj H
 go_enter Try.func66, Try.ntmps66
 go_wp2_with (first | ((with_reducible refine qa1 (N := 2) rfl ?_); refine qbq ?hg (N := 2) ?hd (cs := #[.int .i64 a0_0, .int .i64 a0_1]) (t := 25) ?hr ?_; (case hd => rfl); (case hg => rfl); (case hr => first | (go_simp; done) | (go_simp; rfl)); intro qf3 hg w9 hbox hb; have n0_ := qaa.mk (qaA (by repeat (first | (with_reducible first | exact HB.out | apply qag | apply qad | apply qah) | exact HB.out)) hb); have n1_ := qaa.mk (hbox); have n2_ := qaa.mk ((by rw [hg]; exact (qav (by repeat (first | (with_reducible first | exact HB.out | apply qag | apply qad | apply qah) | exact HB.out))) : w.heap.size ≤ qf3)); have n3_ := qaa.mk ((by rw [hg]; exact (qav (by repeat (first | (with_reducible first | exact HB.out | apply qag | apply qad | apply qah) | exact HB.out))) : w.heap.size ≤ qf3)); clear HB; have HB := n0_; have qf0 := n1_; have qqS := n2_; have qls := n3_; clear n0_ n1_ n2_ n3_; clear hb hbox hg; have qeV : w9.cell? ⟨qf3, 0, none⟩ = some (.int .i64 a0_0) := (qai qf0.out 0).trans rfl; have qeW : w9.cell? ⟨qf3, 1, none⟩ = some (.int .i64 a0_1) := (qai qf0.out 1).trans rfl; have qeX := qaj qf0.out 0; have qeY := qaj qf0.out 1))
 go_ret
 exact ⟨by first | rfl | (simp [qaO, qaP] <;> rfl) | (simp [*, qaO, qaP] <;> rfl), by repeat (first | (with_reducible first | exact HB.out | apply qag | apply qad | apply qah | refine qaf ?_ qls.out) | exact HB.out)⟩
end Go.Proofs.Ytmhomdohhihlcaa.P
namespace Go.Proofs.Ytmhomdohhihlcaa.P
open Go.RowKit Go.Proofs.YtmhomdohhihlcaaW.PrintWords Go.Proofs.YtmhomdohhihlcaaW.PrintLast Go.Proofs.YtmhomdohhihlcaaW.PrintMore
attribute [local go_sem] qb2 qb4 qcg qch qbQ qbR qb3 qb5
mutual
def qaL.l0 : Nat → List (S68) → Int → Int → Bool → List (S68) → Int → Int → Option (Int × Int × Int)
 | 0, _, _, _, _, _, _, _ => none
 | k + 1, x0, x1, x2, x8, x17, x18, x19 => if x19 < x18 then (if 0 ≤ x19 then (if x19 < (x17.length : Int) then (if x8 = true then ((qaD.f ((qaw x17 x19).f0) 0 10000).bind fun t105 => (if t105 = true then ((qdt.f ((qaw x17 x19).f1.f0) ((qaw x17 x19).f1.f1) 20).bind fun t106 => (qaL.l0 k x0 x1 x2 t106 x17 x18 (wrap64 (x19 + 1)))) else (qaL.l0 k x0 x1 x2 false x17 x18 (wrap64 (x19 + 1))))) else (qaL.l0 k x0 x1 x2 false x17 x18 (wrap64 (x19 + 1)))) else (none)) else (none)) else (if x8 = true then ((qaD.f x1 0 20).bind fun t107 => (if t107 = true then ((qaD.f x2 x1 20).bind fun t108 => (qaL.j1 k x0 x1 x2 (!t108))) else (qaL.j1 k x0 x1 x2 true))) else (some (0, 0, 90)))
def qaL.j1 : Nat → List (S68) → Int → Int → Bool → Option (Int × Int × Int)
 | 0, _, _, _, _ => none
 | k + 1, x0, x1, x2, x46 => if x46 = true then (some (0, 0, 7)) else (qaL.l1 k x1 x2 x0 (x0.length : Int) 0 0 0)
def qaL.l1 : Nat → Int → Int → List (S68) → Int → Int → Int → Int → Option (Int × Int × Int)
 | 0, _, _, _, _, _, _, _ => none
 | k + 1, x1, x2, x48, x49, x50, qfV, qfW => if x50 < x49 then (if 0 ≤ x50 then (if x50 < (x48.length : Int) then (if x1 ≤ ((qaw x48 x50).f1.f0) then (qaL.j3 k x1 x2 x48 x49 x50 (decide (((qaw x48 x50).f1.f1) ≤ x2)) qfV qfW ((qaw x48 x50).f0) ((qaw x48 x50).f1.f0) ((qaw x48 x50).f1.f1)) else (qaL.j3 k x1 x2 x48 x49 x50 false qfV qfW ((qaw x48 x50).f0) ((qaw x48 x50).f1.f0) ((qaw x48 x50).f1.f1))) else (none)) else (none)) else (some (qfV, qfW, 0))
def qaL.j3 : Nat → Int → Int → List (S68) → Int → Int → Bool → Int → Int → Int → Int → Int → Option (Int × Int × Int)
 | 0, _, _, _, _, _, _, _, _, _, _, _ => none
 | k + 1, x1, x2, x48, x49, x50, x65, qfV, qfW, qjS, qo9, qpa => if x65 = true then (if x1 ≤ qpa then (if qo9 ≤ x2 then (qaL.l1 k x1 x2 x48 x49 (wrap64 (x50 + 1)) (wrap64 (qfV + qjS)) (wrap64 (qfW + qjS))) else (qaL.l1 k x1 x2 x48 x49 (wrap64 (x50 + 1)) (wrap64 (qfV + qjS)) qfW)) else (qaL.l1 k x1 x2 x48 x49 (wrap64 (x50 + 1)) (wrap64 (qfV + qjS)) qfW)) else (if x1 ≤ qpa then (if qo9 ≤ x2 then (qaL.l1 k x1 x2 x48 x49 (wrap64 (x50 + 1)) qfV (wrap64 (qfW + qjS))) else (qaL.l1 k x1 x2 x48 x49 (wrap64 (x50 + 1)) qfV qfW)) else (qaL.l1 k x1 x2 x48 x49 (wrap64 (x50 + 1)) qfV qfW))
end
def qaL.f (k : Nat) (l0 : List (S68)) (a1 : Int) (a2 : Int) : Option (Int × Int × Int) := qaL.l0 k l0 a1 a2 (decide ((l0.length : Int) ≤ 20)) l0 (l0.length : Int) 0
set_option maxHeartbeats 8000000 in
set_option maxRecDepth 100000 in
theorem qaL.calls (k : Nat) (A0 : Option Addr) (c0 : Nat) (l0 : List (S68)) (a1 : Int) (a2 : Int) (r1 : Int) (r2 : Int) (r3 : Int) (w : World) (hr0 : Kd.C k68 w A0 l0.length l0) (hc0 : l0.length ≤ c0) (h : qaL.f k l0 a1 a2 = some (r1, r2, r3)) :
  Calls Try.prog 19 #[.slice A0 l0.length c0, .int .i64 a1, .int .i64 a2] w fun e w' => e = .returned (.tuple #[.agg #[.int .i64 r1, .int .i64 r2], .int .i64 r3]) ∧ Below w.heap.size w w' := by
 have hu25 := Try.underlying25
 have hu68 := Try.underlying68
 have HR0 := qaa.mk hr0
 have HC0 := qaa.mk hc0
 clear hr0 hc0
 have HB := qaa.mk (Below.refl w.heap.size w)
 have H : (qaL.l0 k l0 a1 a2 (decide ((l0.length : Int) ≤ 20)) l0 (l0.length : Int) 0) = some (r1, r2, r3) := h
 clear h
 have H' := qaa.mk H
 clear H
 go_enter Try.func19, Try.ntmps19
 go_wp2_with (first | ((with_reducible refine qa1 (N := 6) rfl ?_); refine qbq ?hg (N := 6) ?hd (cs := #[.int .i64 0, .int .i64 0]) (t := 25) ?hr ?_; (case hd => rfl); (case hg => rfl); (case hr => first | (go_simp; done) | (go_simp; rfl)); intro qcS hg w4 hbox hb; have n0_ := qaa.mk (qaA (by repeat (first | (with_reducible first | exact HB.out | apply qag | apply qad | apply qah) | exact HB.out)) hb); have n1_ := qaa.mk (hbox); have n2_ := qaa.mk ((by rw [hg]; exact (qav (by repeat (first | (with_reducible first | exact HB.out | apply qag | apply qad | apply qah) | exact HB.out))) : w.heap.size ≤ qcS)); have n3_ := qaa.mk ((by rw [hg]; exact (qav (by repeat (first | (with_reducible first | exact HB.out | apply qag | apply qad | apply qah) | exact HB.out))) : w.heap.size ≤ qcS)); clear HB; have HB := n0_; have qbZ := n1_; have qCp := n2_; have qdq := n3_; clear n0_ n1_ n2_ n3_; clear hb hbox hg))
 go_loopg [8, 19] k (fun kq v8 v19 w' => ∃ (x8_1 : Bool) (qcy : Int), v8 = .bool x8_1 ∧ v19 = .int .i64 qcy ∧ qaa (qaL.l0 kq l0 a1 a2 x8_1 l0 (l0.length : Int) qcy = some (r1, r2, r3)) ∧ qaa (kq ≤ k) ∧ qaa (w'.heap[qcS]? = some (.cells #[.int .i64 0, .int .i64 0] 25 (0, 0))) ∧ qaa (Below w.heap.size w w'))
 case atStart => exact ⟨(decide ((l0.length : Int) ≤ 20)), (0), (by first | rfl | (simp; done) | (simp [*]; done)), (by first | rfl | (simp; done) | (simp [*]; done)), H', ⟨Nat.le_refl _⟩, ⟨by (with_reducible repeat (first | refine qac ?_ _ | refine qae ?_ | refine qab ?_ _)); exact qbZ.out⟩, ⟨by repeat (first | (with_reducible first | exact HB.out | apply qag | apply qad | apply qah | refine qaf ?_ qdq.out) | exact HB.out)⟩⟩
 clear H'
 try clear c1
 try clear p2
 obtain ⟨x8_1, qcy, rfl, rfl, HA, HK1, qbZ, HB⟩ := hrel
 cases gk with
 | zero => exact absurd HA.out (by simp [qaL.l0])
 | succ k1 =>
  have H := HA.out
  clear HA
  simp only [qaL.l0] at H
  by_cases c5 : qcy < (l0.length : Int)
  ·
   rw [if_pos c5] at H
   have c5b0 : decide (qcy < (l0.length : Int)) = true := decide_eq_true c5
   clear c5
   by_cases c6 : 0 ≤ qcy
   ·
    rw [if_pos c6] at H; have c6b0 : decide (0 ≤ qcy) = true := decide_eq_true c6; clear c6
    by_cases c7 : qcy < (l0.length : Int)
    ·
     rw [if_pos c7] at H; have c7b0 : decide (qcy < (l0.length : Int)) = true := decide_eq_true c7; clear c7
     by_cases c8 : x8_1 = true
     ·
      subst c8
      have H1 : ((qaD.f ((qaw l0 qcy).f0) 0 10000).bind fun t105 => (if t105 = true then ((qdt.f ((qaw l0 qcy).f1.f0) ((qaw l0 qcy).f1.f1) 20).bind fun t106 => (qaL.l0 k1 l0 a1 a2 t106 l0 (l0.length : Int) (wrap64 (qcy + 1)))) else (qaL.l0 k1 l0 a1 a2 false l0 (l0.length : Int) (wrap64 (qcy + 1))))) = some (r1, r2, r3) := by rw [if_pos rfl] at H; exact H
      clear H; have H := H1; clear H1; replace H := Option.bind_eq_some_iff.mp H; obtain ⟨t105, A90, H⟩ := H; replace H : (if t105 = true then ((qdt.f ((qaw l0 qcy).f1.f0) ((qaw l0 qcy).f1.f1) 20).bind fun t106 => (qaL.l0 k1 l0 a1 a2 t106 l0 (l0.length : Int) (wrap64 (qcy + 1)))) else (qaL.l0 k1 l0 a1 a2 false l0 (l0.length : Int) (wrap64 (qcy + 1)))) = some (r1, r2, r3) := H; have A9 := qaa.mk A90; clear A90
      by_cases c10 : t105 = true
      ·
       subst c10
       have H1 : ((qdt.f ((qaw l0 qcy).f1.f0) ((qaw l0 qcy).f1.f1) 20).bind fun t106 => (qaL.l0 k1 l0 a1 a2 t106 l0 (l0.length : Int) (wrap64 (qcy + 1)))) = some (r1, r2, r3) := by rw [if_pos rfl] at H; exact H
       clear H; have H := H1; clear H1; replace H := Option.bind_eq_some_iff.mp H; obtain ⟨t106, A110, H⟩ := H; replace H : (qaL.l0 k1 l0 a1 a2 t106 l0 (l0.length : Int) (wrap64 (qcy + 1))) = some (r1, r2, r3) := H; have A11 := qaa.mk A110; clear A110; have H' := qaa.mk H; clear H; have p103 : 0 ≤ (qcy : Int) := of_decide_eq_true (by first | (with_reducible assumption) | assumption); have q103 : qcy < (l0.length : Int) := of_decide_eq_true (by first | (with_reducible assumption) | assumption); obtain ⟨qrp, e103, qeH, qeI, qeJ⟩ := qcZ HR0.out qcy p103 q103; cases e103; replace qeH := (HB.out.cell (World.block_lt_of_cell? w _ qeH)).trans qeH; replace qeI := (HB.out.cell (World.block_lt_of_cell? w _ qeI)).trans qeI; replace qeJ := (HB.out.cell (World.block_lt_of_cell? w _ qeJ)).trans qeJ; replace p103 := eq_true p103; replace q103 := eq_true q103
       go_wp2_with (first | ((with_reducible refine qa1 (N := 10) rfl ?_); refine qbq ?hg (N := 10) ?hd (cs := #[.int .i64 0, .int .i64 0, .int .i64 0]) (t := 68) ?hr ?_; (case hd => rfl); (case hg => rfl); (case hr => first | (go_simp; done) | (go_simp; rfl)); intro qea hg w12 hbox hb; have n0_ := qaa.mk (qar (g := qcS) (o := .cells #[.int .i64 0, .int .i64 0] 25 (0, 0)) (by (with_reducible repeat (first | refine qac ?_ _ | refine qae ?_ | refine qab ?_ _)); exact qbZ.out) hb); have n1_ := qaa.mk (qaA (by repeat (first | (with_reducible first | exact HB.out | apply qag | apply qad | apply qah | refine qaf ?_ qdq.out) | exact HB.out)) hb); have n2_ := qaa.mk (hbox); have n3_ := qaa.mk ((by rw [hg]; exact (qav (by repeat (first | (with_reducible first | exact HB.out | apply qag | apply qad | apply qah | refine qaf ?_ qdq.out) | exact HB.out))) : w.heap.size ≤ qea)); have n4_ := qaa.mk ((by rw [hg]; exact (qav (by repeat (first | (with_reducible first | exact HB.out | apply qag | apply qad | apply qah | refine qaf ?_ qdq.out) | exact HB.out))) : w.heap.size ≤ qea)); have n5_ := qaa.mk ((by rw [hg]; exact Nat.ne_of_lt (qaN (g := qcS) (o := .cells #[.int .i64 0, .int .i64 0] 25 (0, 0)) (by (with_reducible repeat (first | refine qac ?_ _ | refine qae ?_ | refine qab ?_ _)); exact qbZ.out)) : qcS ≠ qea)); have n6_ := qaa.mk ((by rw [hg]; exact Nat.ne_of_gt (qaN (g := qcS) (o := .cells #[.int .i64 0, .int .i64 0] 25 (0, 0)) (by (with_reducible repeat (first | refine qac ?_ _ | refine qae ?_ | refine qab ?_ _)); exact qbZ.out)) : qea ≠ qcS)); clear qbZ; clear HB; have qbZ := n0_; have HB := n1_; have qeb := n2_; have qqT := n3_; have qkr := n4_; have qdV := n5_; have qh8 := n6_; clear n0_ n1_ n2_ n3_ n4_ n5_ n6_; clear hb hbox hg; have quE := qh8.out; have quU := qdV.out; have qep : w12.cell? ⟨qea, 0, none⟩ = some (.int .i64 0) := (qai qeb.out 0).trans rfl; have qeq : w12.cell? ⟨qea, 1, none⟩ = some (.int .i64 0) := (qai qeb.out 1).trans rfl; have qgV : w12.cell? ⟨qea, 2, none⟩ = some (.int .i64 0) := (qai qeb.out 2).trans rfl; have qet := qaj qeb.out 0; have qeu := qaj qeb.out 1; have qg5 := qaj qeb.out 2) | (go_at_call 65; (with_reducible refine (qaD.calls ((qaw l0 qcy).f0) 0 10000 true _ A9.out).mono ?_); rintro e w' ⟨rfl, ⟨nd, rfl⟩⟩) | (go_at_call 66; (with_reducible refine (qdt.calls ((qaw l0 qcy).f1.f0) ((qaw l0 qcy).f1.f1) 20 t106 _ A11.out).mono ?_); rintro e w15 ⟨rfl, hb⟩; have n0_ := qaa.mk (qar (g := qcS) (o := .cells #[.int .i64 0, .int .i64 0] 25 (0, 0)) (by (with_reducible repeat (first | refine qac ?_ _ | refine qae ?_ | refine qab ?_ _)); refine qau ?_ qdV.out _; (with_reducible repeat (first | refine qac ?_ _ | refine qae ?_ | refine qab ?_ _)); refine qau ?_ qdV.out _; (with_reducible repeat (first | refine qac ?_ _ | refine qae ?_ | refine qab ?_ _)); refine qau ?_ qdV.out _; (with_reducible repeat (first | refine qac ?_ _ | refine qae ?_ | refine qab ?_ _)); exact qbZ.out) hb); have n1_ := qaa.mk (qar (g := qea) (o := .cells #[.int .i64 ((qaw l0 qcy).f0), .int .i64 ((qaw l0 qcy).f1.f0), .int .i64 ((qaw l0 qcy).f1.f1)] 68 (0, 0)) (by (with_reducible repeat (first | refine qac ?_ _ | refine qae ?_ | refine qab ?_ _)); refine qaH (cs := #[.int .i64 ((qaw l0 qcy).f0), .int .i64 ((qaw l0 qcy).f1.f0), .int .i64 0]) ?_ 2 _ rfl; (with_reducible repeat (first | refine qac ?_ _ | refine qae ?_ | refine qab ?_ _)); refine qaH (cs := #[.int .i64 ((qaw l0 qcy).f0), .int .i64 0, .int .i64 0]) ?_ 1 _ rfl; (with_reducible repeat (first | refine qac ?_ _ | refine qae ?_ | refine qab ?_ _)); refine qaH (cs := #[.int .i64 0, .int .i64 0, .int .i64 0]) ?_ 0 _ rfl; (with_reducible repeat (first | refine qac ?_ _ | refine qae ?_ | refine qab ?_ _)); exact qeb.out) hb); have n2_ := qaa.mk (qaA (by repeat (first | (with_reducible first | exact HB.out | apply qag | apply qad | apply qah | refine qaf ?_ qdq.out | refine qaf ?_ qkr.out) | exact HB.out)) hb); clear qbZ; clear qeb; clear HB; have qbZ := n0_; have qeb := n1_; have HB := n2_; clear n0_ n1_ n2_; (try clear hb); (try clear hb2); (try clear hk); (try clear hi)))
       go_roundg k1
       case measure => have := HK1.out; omega
       case rel => exact ⟨(t106), (wrap64 (qcy + 1)), (by first | rfl | (simp; done) | (simp [*]; done)), (by first | rfl | (simp; done) | (simp [*]; done)), H', ⟨by have := HK1.out; omega⟩, ⟨by (with_reducible repeat (first | refine qac ?_ _ | refine qae ?_ | refine qab ?_ _)); exact qbZ.out⟩, ⟨by repeat (first | (with_reducible first | exact HB.out | apply qag | apply qad | apply qah | refine qaf ?_ qdq.out | refine qaf ?_ qkr.out) | exact HB.out)⟩⟩
      replace c10 := Bool.eq_false_iff.mpr c10; subst c10
      have H1 : (qaL.l0 k1 l0 a1 a2 false l0 (l0.length : Int) (wrap64 (qcy + 1))) = some (r1, r2, r3) := by rw [if_neg (show ¬ (false = true) by decide)] at H; exact H
      clear H; have H := H1; clear H1; have H' := qaa.mk H; clear H; have p103 : 0 ≤ (qcy : Int) := of_decide_eq_true (by first | (with_reducible assumption) | assumption); have q103 : qcy < (l0.length : Int) := of_decide_eq_true (by first | (with_reducible assumption) | assumption); obtain ⟨qrp, e103, qeH, qeI, qeJ⟩ := qcZ HR0.out qcy p103 q103; cases e103; replace qeH := (HB.out.cell (World.block_lt_of_cell? w _ qeH)).trans qeH; replace qeI := (HB.out.cell (World.block_lt_of_cell? w _ qeI)).trans qeI; replace qeJ := (HB.out.cell (World.block_lt_of_cell? w _ qeJ)).trans qeJ; replace p103 := eq_true p103; replace q103 := eq_true q103
      go_wp2_with (first | ((with_reducible refine qa1 (N := 10) rfl ?_); refine qbq ?hg (N := 10) ?hd (cs := #[.int .i64 0, .int .i64 0, .int .i64 0]) (t := 68) ?hr ?_; (case hd => rfl); (case hg => rfl); (case hr => first | (go_simp; done) | (go_simp; rfl)); intro qea hg w16 hbox hb; have n0_ := qaa.mk (qar (g := qcS) (o := .cells #[.int .i64 0, .int .i64 0] 25 (0, 0)) (by (with_reducible repeat (first | refine qac ?_ _ | refine qae ?_ | refine qab ?_ _)); exact qbZ.out) hb); have n1_ := qaa.mk (qaA (by repeat (first | (with_reducible first | exact HB.out | apply qag | apply qad | apply qah | refine qaf ?_ qdq.out) | exact HB.out)) hb); have n2_ := qaa.mk (hbox); have n3_ := qaa.mk ((by rw [hg]; exact (qav (by repeat (first | (with_reducible first | exact HB.out | apply qag | apply qad | apply qah | refine qaf ?_ qdq.out) | exact HB.out))) : w.heap.size ≤ qea)); have n4_ := qaa.mk ((by rw [hg]; exact (qav (by repeat (first | (with_reducible first | exact HB.out | apply qag | apply qad | apply qah | refine qaf ?_ qdq.out) | exact HB.out))) : w.heap.size ≤ qea)); have n5_ := qaa.mk ((by rw [hg]; exact Nat.ne_of_lt (qaN (g := qcS) (o := .cells #[.int .i64 0, .int .i64 0] 25 (0, 0)) (by (with_reducible repeat (first | refine qac ?_ _ | refine qae ?_ | refine qab ?_ _)); exact qbZ.out)) : qcS ≠ qea)); have n6_ := qaa.mk ((by rw [hg]; exact Nat.ne_of_gt (qaN (g := qcS) (o := .cells #[.int .i64 0, .int .i64 0] 25 (0, 0)) (by (with_reducible repeat (first | refine qac ?_ _ | refine qae ?_ | refine qab ?_ _)); exact qbZ.out)) : qea ≠ qcS)); clear qbZ; clear HB; have qbZ := n0_; have HB := n1_; have qeb := n2_; have qqT := n3_; have qkr := n4_; have qdV := n5_; have qh8 := n6_; clear n0_ n1_ n2_ n3_ n4_ n5_ n6_; clear hb hbox hg; have quG := qh8.out; have quW := qdV.out; have qgZ : w16.cell? ⟨qea, 0, none⟩ = some (.int .i64 0) := (qai qeb.out 0).trans rfl; have qg0 : w16.cell? ⟨qea, 1, none⟩ = some (.int .i64 0) := (qai qeb.out 1).trans rfl; have qg1 : w16.cell? ⟨qea, 2, none⟩ = some (.int .i64 0) := (qai qeb.out 2).trans rfl; have qg9 := qaj qeb.out 0; have qha := qaj qeb.out 1; have qhb := qaj qeb.out 2) | (go_at_call 65; (with_reducible refine (qaD.calls ((qaw l0 qcy).f0) 0 10000 false _ A9.out).mono ?_); rintro e w' ⟨rfl, ⟨nd, rfl⟩⟩))
      go_roundg k1
      case measure => have := HK1.out; omega
      case rel => exact ⟨(false), (wrap64 (qcy + 1)), (by first | rfl | (simp; done) | (simp [*]; done)), (by first | rfl | (simp; done) | (simp [*]; done)), H', ⟨by have := HK1.out; omega⟩, ⟨by (with_reducible repeat (first | refine qac ?_ _ | refine qae ?_ | refine qab ?_ _)); refine qau ?_ qdV.out _; (with_reducible repeat (first | refine qac ?_ _ | refine qae ?_ | refine qab ?_ _)); refine qau ?_ qdV.out _; (with_reducible repeat (first | refine qac ?_ _ | refine qae ?_ | refine qab ?_ _)); refine qau ?_ qdV.out _; (with_reducible repeat (first | refine qac ?_ _ | refine qae ?_ | refine qab ?_ _)); exact qbZ.out⟩, ⟨by repeat (first | (with_reducible first | exact HB.out | apply qag | apply qad | apply qah | refine qaf ?_ qdq.out | refine qaf ?_ qkr.out) | exact HB.out)⟩⟩
     replace c8 := Bool.eq_false_iff.mpr c8; subst c8
     have H1 : (qaL.l0 k1 l0 a1 a2 false l0 (l0.length : Int) (wrap64 (qcy + 1))) = some (r1, r2, r3) := by rw [if_neg (show ¬ (false = true) by decide)] at H; exact H
     clear H; have H := H1; clear H1; have H' := qaa.mk H; clear H; have p103 : 0 ≤ (qcy : Int) := of_decide_eq_true (by first | (with_reducible assumption) | assumption); have q103 : qcy < (l0.length : Int) := of_decide_eq_true (by first | (with_reducible assumption) | assumption); obtain ⟨qrp, e103, qeH, qeI, qeJ⟩ := qcZ HR0.out qcy p103 q103; cases e103; replace qeH := (HB.out.cell (World.block_lt_of_cell? w _ qeH)).trans qeH; replace qeI := (HB.out.cell (World.block_lt_of_cell? w _ qeI)).trans qeI; replace qeJ := (HB.out.cell (World.block_lt_of_cell? w _ qeJ)).trans qeJ; replace p103 := eq_true p103; replace q103 := eq_true q103
     go_wp2_with (first | ((with_reducible refine qa1 (N := 10) rfl ?_); refine qbq ?hg (N := 10) ?hd (cs := #[.int .i64 0, .int .i64 0, .int .i64 0]) (t := 68) ?hr ?_; (case hd => rfl); (case hg => rfl); (case hr => first | (go_simp; done) | (go_simp; rfl)); intro qea hg w19 hbox hb; have n0_ := qaa.mk (qar (g := qcS) (o := .cells #[.int .i64 0, .int .i64 0] 25 (0, 0)) (by (with_reducible repeat (first | refine qac ?_ _ | refine qae ?_ | refine qab ?_ _)); exact qbZ.out) hb); have n1_ := qaa.mk (qaA (by repeat (first | (with_reducible first | exact HB.out | apply qag | apply qad | apply qah | refine qaf ?_ qdq.out) | exact HB.out)) hb); have n2_ := qaa.mk (hbox); have n3_ := qaa.mk ((by rw [hg]; exact (qav (by repeat (first | (with_reducible first | exact HB.out | apply qag | apply qad | apply qah | refine qaf ?_ qdq.out) | exact HB.out))) : w.heap.size ≤ qea)); have n4_ := qaa.mk ((by rw [hg]; exact (qav (by repeat (first | (with_reducible first | exact HB.out | apply qag | apply qad | apply qah | refine qaf ?_ qdq.out) | exact HB.out))) : w.heap.size ≤ qea)); have n5_ := qaa.mk ((by rw [hg]; exact Nat.ne_of_lt (qaN (g := qcS) (o := .cells #[.int .i64 0, .int .i64 0] 25 (0, 0)) (by (with_reducible repeat (first | refine qac ?_ _ | refine qae ?_ | refine qab ?_ _)); exact qbZ.out)) : qcS ≠ qea)); have n6_ := qaa.mk ((by rw [hg]; exact Nat.ne_of_gt (qaN (g := qcS) (o := .cells #[.int .i64 0, .int .i64 0] 25 (0, 0)) (by (with_reducible repeat (first | refine qac ?_ _ | refine qae ?_ | refine qab ?_ _)); exact qbZ.out)) : qea ≠ qcS)); clear qbZ; clear HB; have qbZ := n0_; have HB := n1_; have qeb := n2_; have qqT := n3_; have qkr := n4_; have qdV := n5_; have qh8 := n6_; clear n0_ n1_ n2_ n3_ n4_ n5_ n6_; clear hb hbox hg; have qru := qh8.out; have qrw := qdV.out; have qer : w19.cell? ⟨qea, 0, none⟩ = some (.int .i64 0) := (qai qeb.out 0).trans rfl; have qes : w19.cell? ⟨qea, 1, none⟩ = some (.int .i64 0) := (qai qeb.out 1).trans rfl; have qgs : w19.cell? ⟨qea, 2, none⟩ = some (.int .i64 0) := (qai qeb.out 2).trans rfl; have qev := qaj qeb.out 0; have qew := qaj qeb.out 1; have qgv := qaj qeb.out 2))
     go_roundg k1
     case measure => have := HK1.out; omega
     case rel => exact ⟨(false), (wrap64 (qcy + 1)), (by first | rfl | (simp; done) | (simp [*]; done)), (by first | rfl | (simp; done) | (simp [*]; done)), H', ⟨by have := HK1.out; omega⟩, ⟨by (with_reducible repeat (first | refine qac ?_ _ | refine qae ?_ | refine qab ?_ _)); refine qau ?_ qdV.out _; (with_reducible repeat (first | refine qac ?_ _ | refine qae ?_ | refine qab ?_ _)); refine qau ?_ qdV.out _; (with_reducible repeat (first | refine qac ?_ _ | refine qae ?_ | refine qab ?_ _)); refine qau ?_ qdV.out _; (with_reducible repeat (first | refine qac ?_ _ | refine qae ?_ | refine qab ?_ _)); exact qbZ.out⟩, ⟨by repeat (first | (with_reducible first | exact HB.out | apply qag | apply qad | apply qah | refine qaf ?_ qdq.out | refine qaf ?_ qkr.out) | exact HB.out)⟩⟩
    rw [if_neg c7] at H
    exact absurd H (by simp)
   rw [if_neg c6] at H
   exact absurd H (by simp)
  rw [if_neg c5] at H
  have c5b0 : decide (qcy < (l0.length : Int)) = false := decide_eq_false c5
  clear c5
  by_cases c22 : x8_1 = true
  ·
   subst c22
   have H1 : ((qaD.f a1 0 20).bind fun t107 => (if t107 = true then ((qaD.f a2 a1 20).bind fun t108 => (qaL.j1 k1 l0 a1 a2 (!t108))) else (qaL.j1 k1 l0 a1 a2 true))) = some (r1, r2, r3) := by rw [if_pos rfl] at H; exact H
   clear H
   have H := H1
   clear H1
   have HC23 := qaa.mk H
   clear H
   go_upto_region 9 with (fail)
   go_cut [46] (fun v46 wc => ∃ (kq : Nat) (qml : Bool), v46 = .bool qml ∧ qaa (qaL.j1 kq l0 a1 a2 qml = some (r1, r2, r3)) ∧ qaa (kq ≤ k1) ∧ qaa (wc.heap[qcS]? = some (.cells #[.int .i64 0, .int .i64 0] 25 (0, 0))) ∧ qaa (Below w.heap.size w wc))
   case first =>
    have H := HC23.out; clear HC23; replace H := Option.bind_eq_some_iff.mp H; obtain ⟨t107, A240, H⟩ := H; replace H : (if t107 = true then ((qaD.f a2 a1 20).bind fun t108 => (qaL.j1 k1 l0 a1 a2 (!t108))) else (qaL.j1 k1 l0 a1 a2 true)) = some (r1, r2, r3) := H; have A24 := qaa.mk A240; clear A240
    by_cases c25 : t107 = true
    ·
     subst c25
     have H1 : ((qaD.f a2 a1 20).bind fun t108 => (qaL.j1 k1 l0 a1 a2 (!t108))) = some (r1, r2, r3) := by rw [if_pos rfl] at H; exact H
     clear H; have H := H1; clear H1; replace H := Option.bind_eq_some_iff.mp H; obtain ⟨t108, A260, H⟩ := H; replace H : (qaL.j1 k1 l0 a1 a2 (!t108)) = some (r1, r2, r3) := H; have A26 := qaa.mk A260; clear A260; have H' := qaa.mk H; clear H
     go_wp2_with (first | ((with_reducible refine qaT (f := 65) rfl ?_); refine qbs (some 39) rfl rfl Try.func65 (by kernel_rfl) rfl #[.int .i64 a1, .int .i64 0, .int .i64 20] rfl (by (try simp only [List.map_toArray, List.map_cons, List.map_nil]); first | done | rfl | (simp only [List.length_drop, List.length_take]; rfl)) ?_; (with_reducible refine (qaD.calls a1 0 20 true _ A24.out).mono ?_); rintro e w' ⟨rfl, ⟨nd, rfl⟩⟩; refine ⟨_, rfl, ?_⟩) | (go_at_call 65; (with_reducible refine (qaD.calls a2 a1 20 t108 _ A26.out).mono ?_); rintro e w' ⟨rfl, ⟨nd, rfl⟩⟩))
     go_meet
     case rel => exact ⟨_, (!t108), (by first | rfl | (simp; done) | (simp [*]; done)), H', ⟨by have := HK1.out; first | omega | exact Nat.le_refl _⟩, ⟨by (with_reducible repeat (first | refine qac ?_ _ | refine qae ?_ | refine qab ?_ _)); exact qbZ.out⟩, ⟨by repeat (first | (with_reducible first | exact HB.out | apply qag | apply qad | apply qah | refine qaf ?_ qdq.out) | exact HB.out)⟩⟩
    replace c25 := Bool.eq_false_iff.mpr c25; subst c25
    have H1 : (qaL.j1 k1 l0 a1 a2 true) = some (r1, r2, r3) := by rw [if_neg (show ¬ (false = true) by decide)] at H; exact H
    clear H; have H := H1; clear H1; have H' := qaa.mk H; clear H
    go_wp2_with (first | ((with_reducible refine qaT (f := 65) rfl ?_); refine qbs (some 39) rfl rfl Try.func65 (by kernel_rfl) rfl #[.int .i64 a1, .int .i64 0, .int .i64 20] rfl (by (try simp only [List.map_toArray, List.map_cons, List.map_nil]); first | done | rfl | (simp only [List.length_drop, List.length_take]; rfl)) ?_; (with_reducible refine (qaD.calls a1 0 20 false _ A24.out).mono ?_); rintro e w' ⟨rfl, ⟨nd, rfl⟩⟩; refine ⟨_, rfl, ?_⟩))
    go_meet
    case rel => exact ⟨_, (true), (by first | rfl | (simp; done) | (simp [*]; done)), H', ⟨by have := HK1.out; first | omega | exact Nat.le_refl _⟩, ⟨by (with_reducible repeat (first | refine qac ?_ _ | refine qae ?_ | refine qab ?_ _)); exact qbZ.out⟩, ⟨by repeat (first | (with_reducible first | exact HB.out | apply qag | apply qad | apply qah | refine qaf ?_ qdq.out) | exact HB.out)⟩⟩
   clear HC23
   try clear c1
   try clear p1
   try clear q1
   try clear hx1
   try clear c2
   try clear p2
   try clear c5
   try clear c5b0
   try clear c6
   try clear c6b0
   try clear p6
   try clear c7
   try clear c7b0
   try clear c8
   try clear c10
   try clear p10
   try clear q10
   try clear hx10
   try clear c13
   try clear c17
   try clear c19
   try clear c20
   try clear c22
   try clear c25
   try clear qep
   try clear qeq
   try clear qgV
   try clear qgZ
   try clear qg0
   try clear qg1
   try clear qer
   try clear qes
   try clear qgs
   try clear qet
   try clear qeu
   try clear qg5
   try clear qg9
   try clear qha
   try clear qhb
   try clear qev
   try clear qew
   try clear qgv
   try clear qeH
   try clear qeI
   try clear qeJ
   try clear p103
   try clear p2
   try clear q103
   obtain ⟨kq, qml, rfl, HA, HJ22, qbZ, HB⟩ := hcut
   cases kq with
   | zero => exact absurd HA.out (by simp [qaL.j1])
   | succ kj22 =>
    have H := HA.out; clear HA; simp only [qaL.j1] at H
    by_cases c27 : qml = true
    ·
     subst c27
     have H1 : (some (0, 0, 7)) = some (r1, r2, r3) := by rw [if_pos rfl] at H; exact H
     clear H; have H := H1; clear H1; simp only [Option.some.injEq, Prod.mk.injEq] at H; obtain ⟨rfl, rfl, rfl⟩ := H; have qmG : wc.cell? ⟨qcS, 0, none⟩ = some (.int .i64 0) := (qai qbZ.out 0).trans rfl; have qmH : wc.cell? ⟨qcS, 1, none⟩ = some (.int .i64 0) := (qai qbZ.out 1).trans rfl; have qmO := qaj qbZ.out 0; have qmP := qaj qbZ.out 1
     go_wp2
     refine bodyPost_ret (qj9 rfl _ _ qcS 25 #[.int .i64 0, .int .i64 0] (0, 0) _ rfl (by (with_reducible repeat (first | refine qac ?_ _ | refine qae ?_ | refine qab ?_ _)); refine qaH (cs := #[.int .i64 0, .int .i64 0]) ?_ 1 _ rfl; (with_reducible repeat (first | refine qac ?_ _ | refine qae ?_ | refine qab ?_ _)); refine qaH (cs := #[.int .i64 0, .int .i64 0]) ?_ 0 _ rfl; (with_reducible repeat (first | refine qac ?_ _ | refine qae ?_ | refine qab ?_ _)); exact qbZ.out) Try.underlying25 rfl (by kernel_rfl)) rfl ?_
     exact ⟨by first | rfl | (simp [qaO, qaP] <;> rfl) | (simp [*, qaO, qaP] <;> rfl), by repeat (first | (with_reducible first | exact HB.out | apply qag | apply qad | apply qah | refine qaf ?_ qdq.out) | exact HB.out)⟩
    replace c27 := Bool.eq_false_iff.mpr c27; subst c27
    have H1 : (qaL.l1 kj22 a1 a2 l0 (l0.length : Int) 0 0 0) = some (r1, r2, r3) := by rw [if_neg (show ¬ (false = true) by decide)] at H; exact H
    clear H; have H := H1; clear H1; have H' := qaa.mk H; clear H
    go_wp2_with (first | ((with_reducible refine qa1 (N := 11) rfl ?_); refine qbq ?hg (N := 11) ?hd (cs := #[.int .i64 0, .int .i64 0]) (t := 25) ?hr ?_; (case hd => rfl); (case hg => rfl); (case hr => first | (go_simp; done) | (go_simp; rfl)); intro qeB hg w29 hbox hb; have n0_ := qaa.mk (qar (g := qcS) (o := .cells #[.int .i64 0, .int .i64 0] 25 (0, 0)) (by (with_reducible repeat (first | refine qac ?_ _ | refine qae ?_ | refine qab ?_ _)); exact qbZ.out) hb); have n1_ := qaa.mk (qaA (by repeat (first | (with_reducible first | exact HB.out | apply qag | apply qad | apply qah | refine qaf ?_ qdq.out) | exact HB.out)) hb); have n2_ := qaa.mk (hbox); have n3_ := qaa.mk ((by rw [hg]; exact (qav (by repeat (first | (with_reducible first | exact HB.out | apply qag | apply qad | apply qah | refine qaf ?_ qdq.out) | exact HB.out))) : w.heap.size ≤ qeB)); have n4_ := qaa.mk ((by rw [hg]; exact (qav (by repeat (first | (with_reducible first | exact HB.out | apply qag | apply qad | apply qah | refine qaf ?_ qdq.out) | exact HB.out))) : w.heap.size ≤ qeB)); have n5_ := qaa.mk ((by rw [hg]; exact Nat.ne_of_lt (qaN (g := qcS) (o := .cells #[.int .i64 0, .int .i64 0] 25 (0, 0)) (by (with_reducible repeat (first | refine qac ?_ _ | refine qae ?_ | refine qab ?_ _)); exact qbZ.out)) : qcS ≠ qeB)); have n6_ := qaa.mk ((by rw [hg]; exact Nat.ne_of_gt (qaN (g := qcS) (o := .cells #[.int .i64 0, .int .i64 0] 25 (0, 0)) (by (with_reducible repeat (first | refine qac ?_ _ | refine qae ?_ | refine qab ?_ _)); exact qbZ.out)) : qeB ≠ qcS)); clear qbZ; clear HB; have qbZ := n0_; have HB := n1_; have qde := n2_; have qCq := n3_; have qgj := n4_; have qeR := n5_; have qh9 := n6_; clear n0_ n1_ n2_ n3_ n4_ n5_ n6_; clear hb hbox hg))
    go_loopg [50] kj22 (fun kq v50 w' => ∃ (qbr : Int) (qb7 : Int) (qcd : Int), v50 = .int .i64 qbr ∧ qaa (qaL.l1 kq a1 a2 l0 (l0.length : Int) qbr qb7 qcd = some (r1, r2, r3)) ∧ qaa (kq ≤ kj22) ∧ qaa (w'.heap[qcS]? = some (.cells #[.int .i64 0, .int .i64 0] 25 (0, 0))) ∧ qaa (w'.heap[qeB]? = some (.cells #[.int .i64 qb7, .int .i64 qcd] 25 (0, 0))) ∧ qaa (Below w.heap.size w w'))
    case atStart => exact ⟨(0), (0), (0), (by first | rfl | (simp; done) | (simp [*]; done)), H', ⟨Nat.le_refl _⟩, ⟨by (with_reducible repeat (first | refine qac ?_ _ | refine qae ?_ | refine qab ?_ _)); exact qbZ.out⟩, ⟨by (with_reducible repeat (first | refine qac ?_ _ | refine qae ?_ | refine qab ?_ _)); exact qde.out⟩, ⟨by repeat (first | (with_reducible first | exact HB.out | apply qag | apply qad | apply qah | refine qaf ?_ qdq.out | refine qaf ?_ qgj.out) | exact HB.out)⟩⟩
    clear H'; (try clear c1); (try clear p1); (try clear q1); (try clear hx1); (try clear c2); (try clear p2); (try clear c5); (try clear c5b0); (try clear c6); (try clear c6b0); (try clear p6); (try clear c7); (try clear c7b0); (try clear c8); (try clear c10); (try clear p10); (try clear q10); (try clear hx10); (try clear c13); (try clear c17); (try clear c19); (try clear c20); (try clear c22); (try clear c25); (try clear c27); (try clear qep); (try clear qeq); (try clear qgV); (try clear qgZ); (try clear qg0); (try clear qg1); (try clear qer); (try clear qes); (try clear qgs); (try clear qmG); (try clear qmH); (try clear qet); (try clear qeu); (try clear qg5); (try clear qg9); (try clear qha); (try clear qhb); (try clear qev); (try clear qew); (try clear qgv); (try clear qmO); (try clear qmP); (try clear qeH); (try clear qeI); (try clear qeJ); (try clear p1); (try clear p10); (try clear p103); (try clear p2); (try clear p6); (try clear q1); (try clear q10); (try clear q103); obtain ⟨qbr, qb7, qcd, rfl, HA, HK3, qbZ, qde, HB⟩ := hrel
    cases gk with
    | zero => exact absurd HA.out (by simp [qaL.l1])
    | succ k3 =>
     have H := HA.out; clear HA; simp only [qaL.l1] at H
     by_cases c30 : qbr < (l0.length : Int)
     ·
      rw [if_pos c30] at H; have c30b0 : decide (qbr < (l0.length : Int)) = true := decide_eq_true c30; clear c30
      by_cases c31 : 0 ≤ qbr
      ·
       rw [if_pos c31] at H; have c31b0 : decide (0 ≤ qbr) = true := decide_eq_true c31; clear c31
       by_cases c32 : qbr < (l0.length : Int)
       ·
        rw [if_pos c32] at H; have c32b0 : decide (qbr < (l0.length : Int)) = true := decide_eq_true c32; clear c32; have HC33 := qaa.mk H; clear H; have p110 : 0 ≤ (qbr : Int) := of_decide_eq_true (by first | (with_reducible assumption) | assumption); have q110 : qbr < (l0.length : Int) := of_decide_eq_true (by first | (with_reducible assumption) | assumption); obtain ⟨qCH, e110, qk0, qk1, qk2⟩ := qcZ HR0.out qbr p110 q110; cases e110; replace qk0 := (HB.out.cell (World.block_lt_of_cell? w _ qk0)).trans qk0; replace qk1 := (HB.out.cell (World.block_lt_of_cell? w _ qk1)).trans qk1; replace qk2 := (HB.out.cell (World.block_lt_of_cell? w _ qk2)).trans qk2; replace p110 := eq_true p110; replace q110 := eq_true q110
        go_upto_region 15 with (first | ((with_reducible refine qa1 (N := 13) rfl ?_); refine qbq ?hg (N := 13) ?hd (cs := #[.int .i64 0, .int .i64 0, .int .i64 0]) (t := 68) ?hr ?_; (case hd => rfl); (case hg => rfl); (case hr => first | (go_simp; done) | (go_simp; rfl)); intro qds hg w34 hbox hb; have n0_ := qaa.mk (qar (g := qcS) (o := .cells #[.int .i64 0, .int .i64 0] 25 (0, 0)) (by (with_reducible repeat (first | refine qac ?_ _ | refine qae ?_ | refine qab ?_ _)); exact qbZ.out) hb); have n1_ := qaa.mk (qar (g := qeB) (o := .cells #[.int .i64 qb7, .int .i64 qcd] 25 (0, 0)) (by (with_reducible repeat (first | refine qac ?_ _ | refine qae ?_ | refine qab ?_ _)); exact qde.out) hb); have n2_ := qaa.mk (qaA (by repeat (first | (with_reducible first | exact HB.out | apply qag | apply qad | apply qah | refine qaf ?_ qdq.out | refine qaf ?_ qgj.out) | exact HB.out)) hb); have n3_ := qaa.mk (hbox); have n4_ := qaa.mk ((by rw [hg]; exact (qav (by repeat (first | (with_reducible first | exact HB.out | apply qag | apply qad | apply qah | refine qaf ?_ qdq.out | refine qaf ?_ qgj.out) | exact HB.out))) : w.heap.size ≤ qds)); have n5_ := qaa.mk ((by rw [hg]; exact (qav (by repeat (first | (with_reducible first | exact HB.out | apply qag | apply qad | apply qah | refine qaf ?_ qdq.out | refine qaf ?_ qgj.out) | exact HB.out))) : w.heap.size ≤ qds)); have n6_ := qaa.mk ((by rw [hg]; exact Nat.ne_of_lt (qaN (g := qcS) (o := .cells #[.int .i64 0, .int .i64 0] 25 (0, 0)) (by (with_reducible repeat (first | refine qac ?_ _ | refine qae ?_ | refine qab ?_ _)); exact qbZ.out)) : qcS ≠ qds)); have n7_ := qaa.mk ((by rw [hg]; exact Nat.ne_of_gt (qaN (g := qcS) (o := .cells #[.int .i64 0, .int .i64 0] 25 (0, 0)) (by (with_reducible repeat (first | refine qac ?_ _ | refine qae ?_ | refine qab ?_ _)); exact qbZ.out)) : qds ≠ qcS)); have n8_ := qaa.mk ((by rw [hg]; exact Nat.ne_of_lt (qaN (g := qeB) (o := .cells #[.int .i64 qb7, .int .i64 qcd] 25 (0, 0)) (by (with_reducible repeat (first | refine qac ?_ _ | refine qae ?_ | refine qab ?_ _)); exact qde.out)) : qeB ≠ qds)); have n9_ := qaa.mk ((by rw [hg]; exact Nat.ne_of_gt (qaN (g := qeB) (o := .cells #[.int .i64 qb7, .int .i64 qcd] 25 (0, 0)) (by (with_reducible repeat (first | refine qac ?_ _ | refine qae ?_ | refine qab ?_ _)); exact qde.out)) : qds ≠ qeB)); clear qbZ; clear qde; clear HB; have qbZ := n0_; have qde := n1_; have HB := n2_; have qb9 := n3_; have qCr := n4_; have qiS := n5_; have qdL := n6_; have qfo := n7_; have qdM := n8_; have qfp := n9_; clear n0_ n1_ n2_ n3_ n4_ n5_ n6_ n7_ n8_ n9_; clear hb hbox hg; have quH := qfo.out; have quX := qdL.out; have quI := qfp.out; have quY := qdM.out; have qsc : w34.cell? ⟨qds, 0, none⟩ = some (.int .i64 0) := (qai qb9.out 0).trans rfl; have qsd : w34.cell? ⟨qds, 1, none⟩ = some (.int .i64 0) := (qai qb9.out 1).trans rfl; have qse : w34.cell? ⟨qds, 2, none⟩ = some (.int .i64 0) := (qai qb9.out 2).trans rfl; have qsO := qaj qb9.out 0; have qsP := qaj qb9.out 1; have qsQ := qaj qb9.out 2))
        (try simp only [qaq, qam, qap, qao, qan])
        go_cut [65] (fun v65 wc => ∃ (kq : Nat) (qmn : Bool), v65 = .bool qmn ∧ qaa (qaL.j3 kq a1 a2 l0 (l0.length : Int) qbr qmn qb7 qcd ((qaw l0 qbr).f0) ((qaw l0 qbr).f1.f0) ((qaw l0 qbr).f1.f1) = some (r1, r2, r3)) ∧ qaa (kq ≤ k3) ∧ qaa (wc.heap[qcS]? = some (.cells #[.int .i64 0, .int .i64 0] 25 (0, 0))) ∧ qaa (wc.heap[qeB]? = some (.cells #[.int .i64 qb7, .int .i64 qcd] 25 (0, 0))) ∧ qaa (wc.heap[qds]? = some (.cells #[.int .i64 ((qaw l0 qbr).f0), .int .i64 ((qaw l0 qbr).f1.f0), .int .i64 ((qaw l0 qbr).f1.f1)] 68 (0, 0))) ∧ qaa (Below w.heap.size w wc))
        case first =>
         have H := HC33.out; clear HC33
         by_cases c38 : a1 ≤ ((qaw l0 qbr).f1.f0)
         ·
          rw [if_pos c38] at H; have c38b0 : decide (a1 ≤ ((qaw l0 qbr).f1.f0)) = true := decide_eq_true c38; clear c38
          (first | rw [c38b0] | (simp only [qaB, qaC]; rw [c38b0]) | skip)
          have H' := qaa.mk H; clear H; have qrv := qfo.out; have qrx := qdL.out; have quJ := qfp.out; have quZ := qdM.out; have qoG : w34.cell? ⟨qds, 0, none⟩ = some (.int .i64 0) := (qai qb9.out 0).trans rfl; have qoH : w34.cell? ⟨qds, 1, none⟩ = some (.int .i64 0) := (qai qb9.out 1).trans rfl; have qoI : w34.cell? ⟨qds, 2, none⟩ = some (.int .i64 0) := (qai qb9.out 2).trans rfl; have qoK := qaj qb9.out 0; have qoL := qaj qb9.out 1; have qoM := qaj qb9.out 2
          go_wp2
          go_meet
          case rel => exact ⟨_, (decide (((qaw l0 qbr).f1.f1) ≤ a2)), (by first | rfl | (simp; done) | (simp [*]; done)), H', ⟨by have := HK1.out; have := HJ22.out; have := HK3.out; first | omega | exact Nat.le_refl _⟩, ⟨by (with_reducible repeat (first | refine qac ?_ _ | refine qae ?_ | refine qab ?_ _)); refine qau ?_ qdL.out _; (with_reducible repeat (first | refine qac ?_ _ | refine qae ?_ | refine qab ?_ _)); refine qau ?_ qdL.out _; (with_reducible repeat (first | refine qac ?_ _ | refine qae ?_ | refine qab ?_ _)); refine qau ?_ qdL.out _; (with_reducible repeat (first | refine qac ?_ _ | refine qae ?_ | refine qab ?_ _)); exact qbZ.out⟩, ⟨by (with_reducible repeat (first | refine qac ?_ _ | refine qae ?_ | refine qab ?_ _)); refine qau ?_ qdM.out _; (with_reducible repeat (first | refine qac ?_ _ | refine qae ?_ | refine qab ?_ _)); refine qau ?_ qdM.out _; (with_reducible repeat (first | refine qac ?_ _ | refine qae ?_ | refine qab ?_ _)); refine qau ?_ qdM.out _; (with_reducible repeat (first | refine qac ?_ _ | refine qae ?_ | refine qab ?_ _)); exact qde.out⟩, ⟨by (with_reducible repeat (first | refine qac ?_ _ | refine qae ?_ | refine qab ?_ _)); refine qaH (cs := #[.int .i64 ((qaw l0 qbr).f0), .int .i64 ((qaw l0 qbr).f1.f0), .int .i64 0]) ?_ 2 _ rfl; (with_reducible repeat (first | refine qac ?_ _ | refine qae ?_ | refine qab ?_ _)); refine qaH (cs := #[.int .i64 ((qaw l0 qbr).f0), .int .i64 0, .int .i64 0]) ?_ 1 _ rfl; (with_reducible repeat (first | refine qac ?_ _ | refine qae ?_ | refine qab ?_ _)); refine qaH (cs := #[.int .i64 0, .int .i64 0, .int .i64 0]) ?_ 0 _ rfl; (with_reducible repeat (first | refine qac ?_ _ | refine qae ?_ | refine qab ?_ _)); exact qb9.out⟩, ⟨by repeat (first | (with_reducible first | exact HB.out | apply qag | apply qad | apply qah | refine qaf ?_ qdq.out | refine qaf ?_ qgj.out | refine qaf ?_ qiS.out) | exact HB.out)⟩⟩
         rw [if_neg c38] at H; have c38b0 : decide (a1 ≤ ((qaw l0 qbr).f1.f0)) = false := decide_eq_false c38; clear c38
         (first | rw [c38b0] | (simp only [qaB, qaC]; rw [c38b0]) | skip)
         have H' := qaa.mk H; clear H; have quK := qfo.out; have qu0 := qdL.out; have qDn := qfp.out; have qD1 := qdM.out; have qsl : w34.cell? ⟨qds, 0, none⟩ = some (.int .i64 0) := (qai qb9.out 0).trans rfl; have qsm : w34.cell? ⟨qds, 1, none⟩ = some (.int .i64 0) := (qai qb9.out 1).trans rfl; have qsn : w34.cell? ⟨qds, 2, none⟩ = some (.int .i64 0) := (qai qb9.out 2).trans rfl; have qsX := qaj qb9.out 0; have qsY := qaj qb9.out 1; have qsZ := qaj qb9.out 2
         go_wp2
         go_meet
         case rel => exact ⟨_, (false), (by first | rfl | (simp; done) | (simp [*]; done)), H', ⟨by have := HK1.out; have := HJ22.out; have := HK3.out; first | omega | exact Nat.le_refl _⟩, ⟨by (with_reducible repeat (first | refine qac ?_ _ | refine qae ?_ | refine qab ?_ _)); refine qau ?_ qdL.out _; (with_reducible repeat (first | refine qac ?_ _ | refine qae ?_ | refine qab ?_ _)); refine qau ?_ qdL.out _; (with_reducible repeat (first | refine qac ?_ _ | refine qae ?_ | refine qab ?_ _)); refine qau ?_ qdL.out _; (with_reducible repeat (first | refine qac ?_ _ | refine qae ?_ | refine qab ?_ _)); exact qbZ.out⟩, ⟨by (with_reducible repeat (first | refine qac ?_ _ | refine qae ?_ | refine qab ?_ _)); refine qau ?_ qdM.out _; (with_reducible repeat (first | refine qac ?_ _ | refine qae ?_ | refine qab ?_ _)); refine qau ?_ qdM.out _; (with_reducible repeat (first | refine qac ?_ _ | refine qae ?_ | refine qab ?_ _)); refine qau ?_ qdM.out _; (with_reducible repeat (first | refine qac ?_ _ | refine qae ?_ | refine qab ?_ _)); exact qde.out⟩, ⟨by (with_reducible repeat (first | refine qac ?_ _ | refine qae ?_ | refine qab ?_ _)); refine qaH (cs := #[.int .i64 ((qaw l0 qbr).f0), .int .i64 ((qaw l0 qbr).f1.f0), .int .i64 0]) ?_ 2 _ rfl; (with_reducible repeat (first | refine qac ?_ _ | refine qae ?_ | refine qab ?_ _)); refine qaH (cs := #[.int .i64 ((qaw l0 qbr).f0), .int .i64 0, .int .i64 0]) ?_ 1 _ rfl; (with_reducible repeat (first | refine qac ?_ _ | refine qae ?_ | refine qab ?_ _)); refine qaH (cs := #[.int .i64 0, .int .i64 0, .int .i64 0]) ?_ 0 _ rfl; (with_reducible repeat (first | refine qac ?_ _ | refine qae ?_ | refine qab ?_ _)); exact qb9.out⟩, ⟨by repeat (first | (with_reducible first | exact HB.out | apply qag | apply qad | apply qah | refine qaf ?_ qdq.out | refine qaf ?_ qgj.out | refine qaf ?_ qiS.out) | exact HB.out)⟩⟩
        clear HC33; (try clear c1); (try clear p1); (try clear q1); (try clear hx1); (try clear c2); (try clear p2); (try clear c3); (try clear c4); (try clear c5); (try clear c5b0); (try clear c6); (try clear c6b0); (try clear p6); (try clear c7); (try clear c7b0); (try clear c8); (try clear c10); (try clear p10); (try clear q10); (try clear hx10); (try clear p11); (try clear q11); (try clear hx11); (try clear c13); (try clear c17); (try clear c19); (try clear c20); (try clear c22); (try clear c25); (try clear c27); (try clear c30); (try clear c30b0); (try clear c31); (try clear c31b0); (try clear c32); (try clear c32b0); (try clear c35); (try clear c36); (try clear c38); (try clear c38b0); (try clear c39); (try clear c40); (try clear c42); (try clear c43); (try clear qep); (try clear qeq); (try clear qgV); (try clear qgZ); (try clear qg0); (try clear qg1); (try clear qer); (try clear qes); (try clear qgs); (try clear qmG); (try clear qmH); (try clear qsc); (try clear qsd); (try clear qse); (try clear qoG); (try clear qoH); (try clear qoI); (try clear qsl); (try clear qsm); (try clear qsn); (try clear qet); (try clear qeu); (try clear qg5); (try clear qg9); (try clear qha); (try clear qhb); (try clear qev); (try clear qew); (try clear qgv); (try clear qmO); (try clear qmP); (try clear qsO); (try clear qsP); (try clear qsQ); (try clear qoK); (try clear qoL); (try clear qoM); (try clear qsX); (try clear qsY); (try clear qsZ); (try clear qeH); (try clear qeI); (try clear qeJ); (try clear qk0); (try clear qk1); (try clear qk2); (try clear p1); (try clear p10); (try clear p103); (try clear p110); (try clear p2); (try clear p6); (try clear q1); (try clear q10); (try clear q103); (try clear q110); obtain ⟨kq, qmn, rfl, HA, HJ32, qbZ, qde, qb9, HB⟩ := hcut
        cases kq with
        | zero => exact absurd HA.out (by simp [qaL.j3])
        | succ kj32 =>
         have H := HA.out; clear HA; simp only [qaL.j3] at H
         by_cases c45 : qmn = true
         ·
          subst c45
          have H1 : (if a1 ≤ ((qaw l0 qbr).f1.f1) then (if ((qaw l0 qbr).f1.f0) ≤ a2 then (qaL.l1 kj32 a1 a2 l0 (l0.length : Int) (wrap64 (qbr + 1)) (wrap64 (qb7 + ((qaw l0 qbr).f0))) (wrap64 (qcd + ((qaw l0 qbr).f0)))) else (qaL.l1 kj32 a1 a2 l0 (l0.length : Int) (wrap64 (qbr + 1)) (wrap64 (qb7 + ((qaw l0 qbr).f0))) qcd)) else (qaL.l1 kj32 a1 a2 l0 (l0.length : Int) (wrap64 (qbr + 1)) (wrap64 (qb7 + ((qaw l0 qbr).f0))) qcd)) = some (r1, r2, r3) := by rw [if_pos rfl] at H; exact H
          clear H; have H := H1; clear H1
          by_cases c46 : a1 ≤ ((qaw l0 qbr).f1.f1)
          ·
           rw [if_pos c46] at H; have c46b0 : decide (a1 ≤ ((qaw l0 qbr).f1.f1)) = true := decide_eq_true c46; clear c46
           by_cases c47 : ((qaw l0 qbr).f1.f0) ≤ a2
           ·
            rw [if_pos c47] at H; have c47b0 : decide (((qaw l0 qbr).f1.f0) ≤ a2) = true := decide_eq_true c47; clear c47; have H' := qaa.mk H; clear H; have quL := qh9.out; have qu1 := qeR.out; have quM := qdM.out; have qu2 := qfp.out; have qso : wc.cell? ⟨qeB, 0, none⟩ = some (.int .i64 qb7) := (qai qde.out 0).trans rfl; have qsp : wc.cell? ⟨qeB, 1, none⟩ = some (.int .i64 qcd) := (qai qde.out 1).trans rfl; have qs0 := qaj qde.out 0; have qs1 := qaj qde.out 1; have qDq := qfo.out; have qD4 := qdL.out; have qwX : wc.cell? ⟨qds, 0, none⟩ = some (.int .i64 ((qaw l0 qbr).f0)) := (qai qb9.out 0).trans rfl; have qwY : wc.cell? ⟨qds, 1, none⟩ = some (.int .i64 ((qaw l0 qbr).f1.f0)) := (qai qb9.out 1).trans rfl; have qwZ : wc.cell? ⟨qds, 2, none⟩ = some (.int .i64 ((qaw l0 qbr).f1.f1)) := (qai qb9.out 2).trans rfl; have qyX := qaj qb9.out 0; have qyY := qaj qb9.out 1; have qyZ := qaj qb9.out 2
            go_wp2
            go_roundg kj32
            case measure => have := HK1.out; have := HJ22.out; have := HK3.out; have := HJ32.out; omega
            case rel => exact ⟨(wrap64 (qbr + 1)), (wrap64 (qb7 + ((qaw l0 qbr).f0))), (wrap64 (qcd + ((qaw l0 qbr).f0))), (by first | rfl | (simp; done) | (simp [*]; done)), H', ⟨by have := HK1.out; have := HJ22.out; have := HK3.out; have := HJ32.out; omega⟩, ⟨by (with_reducible repeat (first | refine qac ?_ _ | refine qae ?_ | refine qab ?_ _)); refine qau ?_ qeR.out _; (with_reducible repeat (first | refine qac ?_ _ | refine qae ?_ | refine qab ?_ _)); refine qau ?_ qeR.out _; (with_reducible repeat (first | refine qac ?_ _ | refine qae ?_ | refine qab ?_ _)); exact qbZ.out⟩, ⟨by (with_reducible repeat (first | refine qac ?_ _ | refine qae ?_ | refine qab ?_ _)); refine qaH (cs := #[.int .i64 (wrap64 (qb7 + ((qaw l0 qbr).f0))), .int .i64 qcd]) ?_ 1 _ rfl; (with_reducible repeat (first | refine qac ?_ _ | refine qae ?_ | refine qab ?_ _)); refine qaH (cs := #[.int .i64 qb7, .int .i64 qcd]) ?_ 0 _ rfl; (with_reducible repeat (first | refine qac ?_ _ | refine qae ?_ | refine qab ?_ _)); exact qde.out⟩, ⟨by repeat (first | (with_reducible first | exact HB.out | apply qag | apply qad | apply qah | refine qaf ?_ qdq.out | refine qaf ?_ qgj.out | refine qaf ?_ qiS.out) | exact HB.out)⟩⟩
           rw [if_neg c47] at H; have c47b0 : decide (((qaw l0 qbr).f1.f0) ≤ a2) = false := decide_eq_false c47; clear c47; have H' := qaa.mk H; clear H; have qDr := qh9.out; have qD5 := qeR.out; have qDs := qdM.out; have qD6 := qfp.out; have qw0 : wc.cell? ⟨qeB, 0, none⟩ = some (.int .i64 qb7) := (qai qde.out 0).trans rfl; have qw1 : wc.cell? ⟨qeB, 1, none⟩ = some (.int .i64 qcd) := (qai qde.out 1).trans rfl; have qy0 := qaj qde.out 0; have qy1 := qaj qde.out 1; have qDt := qfo.out; have qD7 := qdL.out; have qw2 : wc.cell? ⟨qds, 0, none⟩ = some (.int .i64 ((qaw l0 qbr).f0)) := (qai qb9.out 0).trans rfl; have qw3 : wc.cell? ⟨qds, 1, none⟩ = some (.int .i64 ((qaw l0 qbr).f1.f0)) := (qai qb9.out 1).trans rfl; have qw4 : wc.cell? ⟨qds, 2, none⟩ = some (.int .i64 ((qaw l0 qbr).f1.f1)) := (qai qb9.out 2).trans rfl; have qy2 := qaj qb9.out 0; have qy3 := qaj qb9.out 1; have qy4 := qaj qb9.out 2
           go_wp2
           go_roundg kj32
           case measure => have := HK1.out; have := HJ22.out; have := HK3.out; have := HJ32.out; omega
           case rel => exact ⟨(wrap64 (qbr + 1)), (wrap64 (qb7 + ((qaw l0 qbr).f0))), (qcd), (by first | rfl | (simp; done) | (simp [*]; done)), H', ⟨by have := HK1.out; have := HJ22.out; have := HK3.out; have := HJ32.out; omega⟩, ⟨by (with_reducible repeat (first | refine qac ?_ _ | refine qae ?_ | refine qab ?_ _)); refine qau ?_ qeR.out _; (with_reducible repeat (first | refine qac ?_ _ | refine qae ?_ | refine qab ?_ _)); exact qbZ.out⟩, ⟨by (with_reducible repeat (first | refine qac ?_ _ | refine qae ?_ | refine qab ?_ _)); refine qaH (cs := #[.int .i64 qb7, .int .i64 qcd]) ?_ 0 _ rfl; (with_reducible repeat (first | refine qac ?_ _ | refine qae ?_ | refine qab ?_ _)); exact qde.out⟩, ⟨by repeat (first | (with_reducible first | exact HB.out | apply qag | apply qad | apply qah | refine qaf ?_ qdq.out | refine qaf ?_ qgj.out | refine qaf ?_ qiS.out) | exact HB.out)⟩⟩
          rw [if_neg c46] at H; have c46b0 : decide (a1 ≤ ((qaw l0 qbr).f1.f1)) = false := decide_eq_false c46; clear c46; have H' := qaa.mk H; clear H; have quN := qh9.out; have qu3 := qeR.out; have quO := qdM.out; have qu4 := qfp.out; have qw5 : wc.cell? ⟨qeB, 0, none⟩ = some (.int .i64 qb7) := (qai qde.out 0).trans rfl; have qw6 : wc.cell? ⟨qeB, 1, none⟩ = some (.int .i64 qcd) := (qai qde.out 1).trans rfl; have qy5 := qaj qde.out 0; have qy6 := qaj qde.out 1; have qDv := qfo.out; have qD9 := qdL.out; have qw8 : wc.cell? ⟨qds, 0, none⟩ = some (.int .i64 ((qaw l0 qbr).f0)) := (qai qb9.out 0).trans rfl; have qw9 : wc.cell? ⟨qds, 1, none⟩ = some (.int .i64 ((qaw l0 qbr).f1.f0)) := (qai qb9.out 1).trans rfl; have qxa : wc.cell? ⟨qds, 2, none⟩ = some (.int .i64 ((qaw l0 qbr).f1.f1)) := (qai qb9.out 2).trans rfl; have qy8 := qaj qb9.out 0; have qy9 := qaj qb9.out 1; have qza := qaj qb9.out 2
          go_wp2
          go_roundg kj32
          case measure => have := HK1.out; have := HJ22.out; have := HK3.out; have := HJ32.out; omega
          case rel => exact ⟨(wrap64 (qbr + 1)), (wrap64 (qb7 + ((qaw l0 qbr).f0))), (qcd), (by first | rfl | (simp; done) | (simp [*]; done)), H', ⟨by have := HK1.out; have := HJ22.out; have := HK3.out; have := HJ32.out; omega⟩, ⟨by (with_reducible repeat (first | refine qac ?_ _ | refine qae ?_ | refine qab ?_ _)); refine qau ?_ qeR.out _; (with_reducible repeat (first | refine qac ?_ _ | refine qae ?_ | refine qab ?_ _)); exact qbZ.out⟩, ⟨by (with_reducible repeat (first | refine qac ?_ _ | refine qae ?_ | refine qab ?_ _)); refine qaH (cs := #[.int .i64 qb7, .int .i64 qcd]) ?_ 0 _ rfl; (with_reducible repeat (first | refine qac ?_ _ | refine qae ?_ | refine qab ?_ _)); exact qde.out⟩, ⟨by repeat (first | (with_reducible first | exact HB.out | apply qag | apply qad | apply qah | refine qaf ?_ qdq.out | refine qaf ?_ qgj.out | refine qaf ?_ qiS.out) | exact HB.out)⟩⟩
         replace c45 := Bool.eq_false_iff.mpr c45; subst c45
         have H1 : (if a1 ≤ ((qaw l0 qbr).f1.f1) then (if ((qaw l0 qbr).f1.f0) ≤ a2 then (qaL.l1 kj32 a1 a2 l0 (l0.length : Int) (wrap64 (qbr + 1)) qb7 (wrap64 (qcd + ((qaw l0 qbr).f0)))) else (qaL.l1 kj32 a1 a2 l0 (l0.length : Int) (wrap64 (qbr + 1)) qb7 qcd)) else (qaL.l1 kj32 a1 a2 l0 (l0.length : Int) (wrap64 (qbr + 1)) qb7 qcd)) = some (r1, r2, r3) := by rw [if_neg (show ¬ (false = true) by decide)] at H; exact H
         clear H; have H := H1; clear H1
         by_cases c63 : a1 ≤ ((qaw l0 qbr).f1.f1)
         ·
          rw [if_pos c63] at H; have c63b0 : decide (a1 ≤ ((qaw l0 qbr).f1.f1)) = true := decide_eq_true c63; clear c63
          by_cases c64 : ((qaw l0 qbr).f1.f0) ≤ a2
          ·
           rw [if_pos c64] at H; have c64b0 : decide (((qaw l0 qbr).f1.f0) ≤ a2) = true := decide_eq_true c64; clear c64; have H' := qaa.mk H; clear H; have quP := qfo.out; have qu5 := qdL.out; have qDy := qfp.out; have qEc := qdM.out; have qxm : wc.cell? ⟨qds, 0, none⟩ = some (.int .i64 ((qaw l0 qbr).f0)) := (qai qb9.out 0).trans rfl; have qxn : wc.cell? ⟨qds, 1, none⟩ = some (.int .i64 ((qaw l0 qbr).f1.f0)) := (qai qb9.out 1).trans rfl; have qxo : wc.cell? ⟨qds, 2, none⟩ = some (.int .i64 ((qaw l0 qbr).f1.f1)) := (qai qb9.out 2).trans rfl; have qzm := qaj qb9.out 0; have qzn := qaj qb9.out 1; have qzo := qaj qb9.out 2; have qDz := qh9.out; have qEd := qeR.out; have qxp : wc.cell? ⟨qeB, 0, none⟩ = some (.int .i64 qb7) := (qai qde.out 0).trans rfl; have qxq : wc.cell? ⟨qeB, 1, none⟩ = some (.int .i64 qcd) := (qai qde.out 1).trans rfl; have qzp := qaj qde.out 0; have qzq := qaj qde.out 1
           go_wp2
           go_roundg kj32
           case measure => have := HK1.out; have := HJ22.out; have := HK3.out; have := HJ32.out; omega
           case rel => exact ⟨(wrap64 (qbr + 1)), (qb7), (wrap64 (qcd + ((qaw l0 qbr).f0))), (by first | rfl | (simp; done) | (simp [*]; done)), H', ⟨by have := HK1.out; have := HJ22.out; have := HK3.out; have := HJ32.out; omega⟩, ⟨by (with_reducible repeat (first | refine qac ?_ _ | refine qae ?_ | refine qab ?_ _)); refine qau ?_ qeR.out _; (with_reducible repeat (first | refine qac ?_ _ | refine qae ?_ | refine qab ?_ _)); exact qbZ.out⟩, ⟨by (with_reducible repeat (first | refine qac ?_ _ | refine qae ?_ | refine qab ?_ _)); refine qaH (cs := #[.int .i64 qb7, .int .i64 qcd]) ?_ 1 _ rfl; (with_reducible repeat (first | refine qac ?_ _ | refine qae ?_ | refine qab ?_ _)); exact qde.out⟩, ⟨by repeat (first | (with_reducible first | exact HB.out | apply qag | apply qad | apply qah | refine qaf ?_ qdq.out | refine qaf ?_ qgj.out | refine qaf ?_ qiS.out) | exact HB.out)⟩⟩
          rw [if_neg c64] at H; have c64b0 : decide (((qaw l0 qbr).f1.f0) ≤ a2) = false := decide_eq_false c64; clear c64; have H' := qaa.mk H; clear H; have quQ := qfo.out; have qu6 := qdL.out; have quR := qfp.out; have qu7 := qdM.out; have qxr : wc.cell? ⟨qds, 0, none⟩ = some (.int .i64 ((qaw l0 qbr).f0)) := (qai qb9.out 0).trans rfl; have qxs : wc.cell? ⟨qds, 1, none⟩ = some (.int .i64 ((qaw l0 qbr).f1.f0)) := (qai qb9.out 1).trans rfl; have qxt : wc.cell? ⟨qds, 2, none⟩ = some (.int .i64 ((qaw l0 qbr).f1.f1)) := (qai qb9.out 2).trans rfl; have qzr := qaj qb9.out 0; have qzs := qaj qb9.out 1; have qzt := qaj qb9.out 2
          go_wp2
          go_roundg kj32
          case measure => have := HK1.out; have := HJ22.out; have := HK3.out; have := HJ32.out; omega
          case rel => exact ⟨(wrap64 (qbr + 1)), (qb7), (qcd), (by first | rfl | (simp; done) | (simp [*]; done)), H', ⟨by have := HK1.out; have := HJ22.out; have := HK3.out; have := HJ32.out; omega⟩, ⟨by (with_reducible repeat (first | refine qac ?_ _ | refine qae ?_ | refine qab ?_ _)); exact qbZ.out⟩, ⟨by (with_reducible repeat (first | refine qac ?_ _ | refine qae ?_ | refine qab ?_ _)); exact qde.out⟩, ⟨by repeat (first | (with_reducible first | exact HB.out | apply qag | apply qad | apply qah | refine qaf ?_ qdq.out | refine qaf ?_ qgj.out | refine qaf ?_ qiS.out) | exact HB.out)⟩⟩
         rw [if_neg c63] at H; have c63b0 : decide (a1 ≤ ((qaw l0 qbr).f1.f1)) = false := decide_eq_false c63; clear c63; have H' := qaa.mk H; clear H; have qDC := qfo.out; have qEg := qdL.out; have qDD := qfp.out; have qEh := qdM.out; have qsq : wc.cell? ⟨qds, 0, none⟩ = some (.int .i64 ((qaw l0 qbr).f0)) := (qai qb9.out 0).trans rfl; have qsr : wc.cell? ⟨qds, 1, none⟩ = some (.int .i64 ((qaw l0 qbr).f1.f0)) := (qai qb9.out 1).trans rfl; have qss : wc.cell? ⟨qds, 2, none⟩ = some (.int .i64 ((qaw l0 qbr).f1.f1)) := (qai qb9.out 2).trans rfl; have qs2 := qaj qb9.out 0; have qs3 := qaj qb9.out 1; have qs4 := qaj qb9.out 2
         go_wp2
         go_roundg kj32
         case measure => have := HK1.out; have := HJ22.out; have := HK3.out; have := HJ32.out; omega
         case rel => exact ⟨(wrap64 (qbr + 1)), (qb7), (qcd), (by first | rfl | (simp; done) | (simp [*]; done)), H', ⟨by have := HK1.out; have := HJ22.out; have := HK3.out; have := HJ32.out; omega⟩, ⟨by (with_reducible repeat (first | refine qac ?_ _ | refine qae ?_ | refine qab ?_ _)); exact qbZ.out⟩, ⟨by (with_reducible repeat (first | refine qac ?_ _ | refine qae ?_ | refine qab ?_ _)); exact qde.out⟩, ⟨by repeat (first | (with_reducible first | exact HB.out | apply qag | apply qad | apply qah | refine qaf ?_ qdq.out | refine qaf ?_ qgj.out | refine qaf ?_ qiS.out) | exact HB.out)⟩⟩
       rw [if_neg c32] at H
       exact absurd H (by simp)
      rw [if_neg c31] at H
      exact absurd H (by simp)
     rw [if_neg c30] at H; have c30b0 : decide (qbr < (l0.length : Int)) = false := decide_eq_false c30; clear c30; simp only [Option.some.injEq, Prod.mk.injEq] at H; obtain ⟨rfl, rfl, rfl⟩ := H; have quS := qh9.out; have qu8 := qeR.out; have qoJ : wr.cell? ⟨qeB, 0, none⟩ = some (.int .i64 qb7) := (qai qde.out 0).trans rfl; have qst : wr.cell? ⟨qeB, 1, none⟩ = some (.int .i64 qcd) := (qai qde.out 1).trans rfl; have qoN := qaj qde.out 0; have qs5 := qaj qde.out 1; have qxI : wr.cell? ⟨qcS, 0, none⟩ = some (.int .i64 0) := (qai qbZ.out 0).trans rfl; have qxJ : wr.cell? ⟨qcS, 1, none⟩ = some (.int .i64 0) := (qai qbZ.out 1).trans rfl; have qzI := qaj qbZ.out 0; have qzJ := qaj qbZ.out 1
     go_wp2
     refine bodyPost_ret (qj9 rfl _ _ qcS 25 #[.int .i64 qb7, .int .i64 qcd] (0, 0) _ rfl (by (with_reducible repeat (first | refine qac ?_ _ | refine qae ?_ | refine qab ?_ _)); refine qaH (cs := #[.int .i64 qb7, .int .i64 0]) ?_ 1 _ rfl; (with_reducible repeat (first | refine qac ?_ _ | refine qae ?_ | refine qab ?_ _)); refine qaH (cs := #[.int .i64 0, .int .i64 0]) ?_ 0 _ rfl; (with_reducible repeat (first | refine qac ?_ _ | refine qae ?_ | refine qab ?_ _)); exact qbZ.out) Try.underlying25 rfl (by kernel_rfl)) rfl ?_
     exact ⟨by first | rfl | (simp [qaO, qaP] <;> rfl) | (simp [*, qaO, qaP] <;> rfl), by repeat (first | (with_reducible first | exact HB.out | apply qag | apply qad | apply qah | refine qaf ?_ qdq.out | refine qaf ?_ qgj.out) | exact HB.out)⟩
  replace c22 := Bool.eq_false_iff.mpr c22
  subst c22
  have H1 : (some (0, 0, 90)) = some (r1, r2, r3) := by rw [if_neg (show ¬ (false = true) by decide)] at H; exact H
  clear H
  have H := H1
  clear H1
  simp only [Option.some.injEq, Prod.mk.injEq] at H
  obtain ⟨rfl, rfl, rfl⟩ := H
  have qxK : wr.cell? ⟨qcS, 0, none⟩ = some (.int .i64 0) := (qai qbZ.out 0).trans rfl
  have qxL : wr.cell? ⟨qcS, 1, none⟩ = some (.int .i64 0) := (qai qbZ.out 1).trans rfl
  have qzK := qaj qbZ.out 0
  have qzL := qaj qbZ.out 1
  go_wp2
  refine bodyPost_ret (qj9 rfl _ _ qcS 25 #[.int .i64 0, .int .i64 0] (0, 0) _ rfl (by (with_reducible repeat (first | refine qac ?_ _ | refine qae ?_ | refine qab ?_ _)); refine qaH (cs := #[.int .i64 0, .int .i64 0]) ?_ 1 _ rfl; (with_reducible repeat (first | refine qac ?_ _ | refine qae ?_ | refine qab ?_ _)); refine qaH (cs := #[.int .i64 0, .int .i64 0]) ?_ 0 _ rfl; (with_reducible repeat (first | refine qac ?_ _ | refine qae ?_ | refine qab ?_ _)); exact qbZ.out) Try.underlying25 rfl (by kernel_rfl)) rfl ?_
  exact ⟨by first | rfl | (simp [qaO, qaP] <;> rfl) | (simp [*, qaO, qaP] <;> rfl), by repeat (first | (with_reducible first | exact HB.out | apply qag | apply qad | apply qah | refine qaf ?_ qdq.out) | exact HB.out)⟩
end Go.Proofs.Ytmhomdohhihlcaa.P
namespace Go.Proofs.Ytmhomdohhihlcaa.P
open Go.RowKit Go.Proofs.YtmhomdohhihlcaaW.PrintWords Go.Proofs.YtmhomdohhihlcaaW.PrintLast Go.Proofs.YtmhomdohhihlcaaW.PrintMore
attribute [local go_sem] qb2 qb4 qcg qch qbQ qbR qb3 qb5
def qba.f (a0 : Int) (a1 : Int) (a2 : Int) : Option (Bool) := if a1 ≤ a0 then (some (decide (a0 ≤ a2))) else (some false)
set_option maxHeartbeats 8000000 in
set_option maxRecDepth 100000 in
theorem qba.calls (a0 : Int) (a1 : Int) (a2 : Int) (r : Bool) (w : World) (h : qba.f a0 a1 a2 = some r) :
  Calls Try.prog 34 #[.int .i64 a0, .int .i64 a1, .int .i64 a2] w fun e w' => e = .returned (.bool r) ∧ qbF w w' := by
 have H : (if a1 ≤ a0 then (some (decide (a0 ≤ a2))) else (some false)) = some r := h
 clear h
 by_cases c4 : a1 ≤ a0
 ·
  rw [if_pos c4] at H
  have c4b0 : decide (a1 ≤ a0) = true := decide_eq_true c4
  clear c4
  obtain rfl := Option.some.inj H
  go_enter Try.func34, Try.ntmps34
  go_wp2
  go_ret
  exact ⟨by first | rfl | (simp; done) | (simp [*]; done), by repeat (first | exact qbF.refl _ | apply qbF.step)⟩
 rw [if_neg c4] at H
 have c4b0 : decide (a1 ≤ a0) = false := decide_eq_false c4
 clear c4
 obtain rfl := Option.some.inj H
 go_enter Try.func34, Try.ntmps34
 go_wp2
 go_ret
 exact ⟨by first | rfl | (simp; done) | (simp [*]; done), by repeat (first | exact qbF.refl _ | apply qbF.step)⟩
end Go.Proofs.Ytmhomdohhihlcaa.P
namespace Go.Proofs.Ytmhomdohhihlcaa.P
open Go.RowKit Go.Proofs.YtmhomdohhihlcaaW.PrintWords Go.Proofs.YtmhomdohhihlcaaW.PrintLast Go.Proofs.YtmhomdohhihlcaaW.PrintMore
attribute [local go_sem] qb2 qb4 qcg qch qbQ qbR qb3 qb5
def qaK.f (a0 : Int) (a1 : Int) : Option (Int × Int) := some (a0, a1)
set_option maxHeartbeats 8000000 in
set_option maxRecDepth 100000 in
theorem qaK.calls (a0 : Int) (a1 : Int) (r1 : Int) (r2 : Int) (w : World) (h : qaK.f a0 a1 = some (r1, r2)) :
  Calls Try.prog 43 #[.int .i64 a0, .int .i64 a1] w fun e w' => e = .returned (.agg #[.int .i64 r1, .int .i64 r2]) ∧ Below w.heap.size w w' := by
 have hu25 := Try.underlying25
 have HB := qaa.mk (Below.refl w.heap.size w)
 have H : (some (a0, a1)) = some (r1, r2) := h
 clear h
 simp only [Option.some.injEq, Prod.mk.injEq] at H
 obtain ⟨rfl, rfl⟩ := H
 go_enter Try.func43, Try.ntmps43
 go_wp2_with (first | ((with_reducible refine qa1 (N := 4) rfl ?_); refine qbq ?hg (N := 4) ?hd (cs := #[.int .i64 0, .int .i64 0]) (t := 25) ?hr ?_; (case hd => rfl); (case hg => rfl); (case hr => first | (go_simp; done) | (go_simp; rfl)); intro qlC hg w3 hbox hb; have n0_ := qaa.mk (qaA (by repeat (first | (with_reducible first | exact HB.out | apply qag | apply qad | apply qah) | exact HB.out)) hb); have n1_ := qaa.mk (hbox); have n2_ := qaa.mk ((by rw [hg]; exact (qav (by repeat (first | (with_reducible first | exact HB.out | apply qag | apply qad | apply qah) | exact HB.out))) : w.heap.size ≤ qlC)); have n3_ := qaa.mk ((by rw [hg]; exact (qav (by repeat (first | (with_reducible first | exact HB.out | apply qag | apply qad | apply qah) | exact HB.out))) : w.heap.size ≤ qlC)); clear HB; have HB := n0_; have qlr := n1_; have qCA := n2_; have qt0 := n3_; clear n0_ n1_ n2_ n3_; clear hb hbox hg; have qeL : w3.cell? ⟨qlC, 0, none⟩ = some (.int .i64 0) := (qai qlr.out 0).trans rfl; have qeM : w3.cell? ⟨qlC, 1, none⟩ = some (.int .i64 0) := (qai qlr.out 1).trans rfl; have qeN := qaj qlr.out 0; have qeO := qaj qlr.out 1))
 refine bodyPost_ret (results_cell_row rfl _ _ qlC 25 #[.int .i64 a0, .int .i64 a1] (0, 0) _ rfl (by (with_reducible repeat (first | refine qac ?_ _ | refine qae ?_ | refine qab ?_ _)); refine qaH (cs := #[.int .i64 a0, .int .i64 0]) ?_ 1 _ rfl; (with_reducible repeat (first | refine qac ?_ _ | refine qae ?_ | refine qab ?_ _)); refine qaH (cs := #[.int .i64 0, .int .i64 0]) ?_ 0 _ rfl; (with_reducible repeat (first | refine qac ?_ _ | refine qae ?_ | refine qab ?_ _)); exact qlr.out) Try.underlying25 rfl (by kernel_rfl)) rfl ?_
 exact ⟨by first | rfl | (simp [qaO, qaP] <;> rfl) | (simp [*, qaO, qaP] <;> rfl), by repeat (first | (with_reducible first | exact HB.out | apply qag | apply qad | apply qah | refine qaf ?_ qt0.out) | exact HB.out)⟩
end Go.Proofs.Ytmhomdohhihlcaa.P
namespace Go.Proofs.Ytmhomdohhihlcaa.P
open Go.RowKit Go.Proofs.YtmhomdohhihlcaaW.PrintWords Go.Proofs.YtmhomdohhihlcaaW.PrintLast Go.Proofs.YtmhomdohhihlcaaW.PrintMore
attribute [local go_sem] qb2 qb4 qcg qch qbQ qbR qb3 qb5
def qcc.f (a0 : Int) (a1 : Int) : Option (Int) := if a1 = 0 then (none) else (if (Int.tmod a0 a1) < 0 then (some (wrap64 ((Int.tmod a0 a1) + a1))) else (some (Int.tmod a0 a1)))
set_option maxHeartbeats 8000000 in
set_option maxRecDepth 100000 in
theorem qcc.calls (a0 : Int) (a1 : Int) (r : Int) (w : World) (h : qcc.f a0 a1 = some r) :
  Calls Try.prog 36 #[.int .i64 a0, .int .i64 a1] w fun e w' => e = .returned (.int .i64 r) ∧ qbF w w' := by
 have H : (if a1 = 0 then (none) else (if (Int.tmod a0 a1) < 0 then (some (wrap64 ((Int.tmod a0 a1) + a1))) else (some (Int.tmod a0 a1)))) = some r := h
 clear h
 by_cases c3 : a1 = 0
 · rw [if_pos c3] at H; exact absurd H (by simp)
 rw [if_neg c3] at H
 have c3b0 : (a1 == 0) = false := beq_eq_false_iff_ne.mpr c3
 have c3b1 : (a1 != 0) = true := bne_iff_ne.mpr c3
 by_cases c4 : (Int.tmod a0 a1) < 0
 ·
  rw [if_pos c4] at H
  have c4b0 : decide ((Int.tmod a0 a1) < 0) = true := decide_eq_true c4
  clear c4
  obtain rfl := Option.some.inj H
  go_enter Try.func36, Try.ntmps36
  go_wp2
  go_ret
  exact ⟨by first | rfl | (simp; done) | (simp [*]; done), by repeat (first | exact qbF.refl _ | apply qbF.step)⟩
 rw [if_neg c4] at H
 have c4b0 : decide ((Int.tmod a0 a1) < 0) = false := decide_eq_false c4
 clear c4
 obtain rfl := Option.some.inj H
 go_enter Try.func36, Try.ntmps36
 go_wp2
 go_ret
 exact ⟨by first | rfl | (simp; done) | (simp [*]; done), by repeat (first | exact qbF.refl _ | apply qbF.step)⟩
end Go.Proofs.Ytmhomdohhihlcaa.P
namespace Go.Proofs.Ytmhomdohhihlcaa.P
open Go.RowKit Go.Proofs.YtmhomdohhihlcaaW.PrintWords Go.Proofs.YtmhomdohhihlcaaW.PrintLast Go.Proofs.YtmhomdohhihlcaaW.PrintMore
attribute [local go_sem] qb2 qb4 qcg qch qbQ qbR qb3 qb5
def qbX.f (a0 : Int) (a1 : Int) (a2 : Int) : Option (Int) := if a1 ≤ a0 then (some a0) else (if (wrap64 ((wrap64 (a1 - a0)) + 1)) < 1 then (some (mn (mx a2 a0) a1)) else ((qcc.f a2 (wrap64 ((wrap64 (a1 - a0)) + 1))).bind fun t591 => (some (wrap64 (a0 + t591)))))
set_option maxHeartbeats 8000000 in
set_option maxRecDepth 100000 in
theorem qbX.calls (a0 : Int) (a1 : Int) (a2 : Int) (r : Int) (w : World) (h : qbX.f a0 a1 a2 = some r) :
  Calls Try.prog 39 #[.int .i64 a0, .int .i64 a1, .int .i64 a2] w fun e w' => e = .returned (.int .i64 r) ∧ Below w.heap.size w w' := by
 have HB := qaa.mk (Below.refl w.heap.size w)
 have H : (if a1 ≤ a0 then (some a0) else (if (wrap64 ((wrap64 (a1 - a0)) + 1)) < 1 then (some (mn (mx a2 a0) a1)) else ((qcc.f a2 (wrap64 ((wrap64 (a1 - a0)) + 1))).bind fun t591 => (some (wrap64 (a0 + t591)))))) = some r := h
 clear h
 by_cases c4 : a1 ≤ a0
 ·
  rw [if_pos c4] at H
  have c4b0 : decide (a1 ≤ a0) = true := decide_eq_true c4
  clear c4
  obtain rfl := Option.some.inj H
  go_enter Try.func39, Try.ntmps39
  go_wp2
  go_ret
  exact ⟨by first | rfl | (simp [qaO, qaP] <;> rfl) | (simp [*, qaO, qaP] <;> rfl), by repeat (first | (with_reducible first | exact HB.out | apply qag | apply qad | apply qah) | exact HB.out)⟩
 rw [if_neg c4] at H
 have c4b0 : decide (a1 ≤ a0) = false := decide_eq_false c4
 clear c4
 by_cases c5 : (wrap64 ((wrap64 (a1 - a0)) + 1)) < 1
 ·
  rw [if_pos c5] at H
  have c5b0 : decide ((wrap64 ((wrap64 (a1 - a0)) + 1)) < 1) = true := decide_eq_true c5
  clear c5
  obtain ⟨ji6, hji6⟩ : ∃ j_ : Int, (mx a2 a0) = j_ := ⟨_, rfl⟩
  replace H : (some (mn (ji6) a1)) = some r := by first | (rw [hji6] at H; exact H) | (simp only [hji6] at H ⊢; exact H)
  have hji6_ : (if a2 < a0 then a0 else a2) = ji6 := hji6
  obtain ⟨ji7, hji7⟩ : ∃ j_ : Int, (mn (ji6) a1) = j_ := ⟨_, rfl⟩
  replace H : (some ji7) = some r := by first | (rw [hji7] at H; exact H) | (simp only [hji7] at H ⊢; exact H)
  have hji7_ : (if a1 < (ji6) then a1 else (ji6)) = ji7 := hji7
  obtain rfl := Option.some.inj H
  go_enter Try.func39, Try.ntmps39
  go_wp2
  go_ret
  exact ⟨by first | rfl | (simp [qaO, qaP] <;> rfl) | (simp only [← hji6, ← hji7]; first | rfl | (simp [qaO, qaP] <;> rfl)) | (simp [*, qaO, qaP] <;> rfl), by repeat (first | (with_reducible first | exact HB.out | apply qag | apply qad | apply qah) | exact HB.out)⟩
 rw [if_neg c5] at H
 have c5b0 : decide ((wrap64 ((wrap64 (a1 - a0)) + 1)) < 1) = false := decide_eq_false c5
 clear c5
 replace H := Option.bind_eq_some_iff.mp H
 obtain ⟨t591, A80, H⟩ := H
 replace H : (some (wrap64 (a0 + t591))) = some r := H
 have A8 := qaa.mk A80
 clear A80
 obtain rfl := Option.some.inj H
 go_enter Try.func39, Try.ntmps39
 go_wp2_with (first | ((with_reducible refine qaT (f := 36) rfl ?_); refine qbs (some 26) rfl rfl Try.func36 (by kernel_rfl) rfl #[.int .i64 a2, .int .i64 (wrap64 ((wrap64 (a1 - a0)) + 1))] rfl (by (try simp only [List.map_toArray, List.map_cons, List.map_nil]); first | done | rfl | (simp only [List.length_drop, List.length_take]; rfl)) ?_; (with_reducible refine (qcc.calls a2 (wrap64 ((wrap64 (a1 - a0)) + 1)) t591 _ A8.out).mono ?_); rintro e w' ⟨rfl, ⟨nd, rfl⟩⟩; refine ⟨_, rfl, ?_⟩))
 go_ret
 exact ⟨by first | rfl | (simp [qaO, qaP] <;> rfl) | (simp [*, qaO, qaP] <;> rfl), by repeat (first | (with_reducible first | exact HB.out | apply qag | apply qad | apply qah) | exact HB.out)⟩
end Go.Proofs.Ytmhomdohhihlcaa.P
namespace Go.Proofs.Ytmhomdohhihlcaa.P
open Go.RowKit Go.Proofs.YtmhomdohhihlcaaW.PrintWords Go.Proofs.YtmhomdohhihlcaaW.PrintLast Go.Proofs.YtmhomdohhihlcaaW.PrintMore
attribute [local go_sem] qb2 qb4 qcg qch qbQ qbR qb3 qb5
def qcL.f (l0 : List Int) (a1 : Int) : Option (Int) := if (l0.length : Int) = 0 then (some 0) else ((qcc.f a1 (l0.length : Int)).bind fun t674 => (if 0 ≤ t674 then (if t674 < (l0.length : Int) then (some (rd l0 t674)) else (none)) else (none)))
set_option maxHeartbeats 8000000 in
set_option maxRecDepth 100000 in
theorem qcL.calls (A0 : Option Addr) (c0 : Nat) (l0 : List Int) (a1 : Int) (r : Int) (w : World) (hr0 : Kd.C (Kd.int .i64) w A0 l0.length l0) (hc0 : l0.length ≤ c0) (h : qcL.f l0 a1 = some r) :
  Calls Try.prog 42 #[.slice A0 l0.length c0, .int .i64 a1] w fun e w' => e = .returned (.int .i64 r) ∧ qbF w w' := by
 have HR0 := qaa.mk hr0
 have HC0 := qaa.mk hc0
 clear hr0 hc0
 have H : (if (l0.length : Int) = 0 then (some 0) else ((qcc.f a1 (l0.length : Int)).bind fun t674 => (if 0 ≤ t674 then (if t674 < (l0.length : Int) then (some (rd l0 t674)) else (none)) else (none)))) = some r := h
 clear h
 by_cases c3 : (l0.length : Int) = 0
 ·
  rw [if_pos c3] at H
  have c3b0 : ((l0.length : Int) == 0) = true := beq_iff_eq.mpr c3
  have c3b1 : ((l0.length : Int) != 0) = false := bne_eq_false_iff_eq.mpr c3
  clear c3
  obtain rfl := Option.some.inj H
  go_enter Try.func42, Try.ntmps42
  go_wp2
  go_ret
  exact ⟨by first | rfl | (simp; done) | (simp [*]; done), by repeat (first | exact qbF.refl _ | apply qbF.step)⟩
 rw [if_neg c3] at H
 have c3b0 : ((l0.length : Int) == 0) = false := beq_eq_false_iff_ne.mpr c3
 have c3b1 : ((l0.length : Int) != 0) = true := bne_iff_ne.mpr c3
 have c3b2 : ¬ (l0 = []) := fun h_ => c3 (by rw [h_]; rfl)
 replace H := Option.bind_eq_some_iff.mp H
 obtain ⟨t674, A40, H⟩ := H
 replace H : (if 0 ≤ t674 then (if t674 < (l0.length : Int) then (some (rd l0 t674)) else (none)) else (none)) = some r := H
 have A4 := qaa.mk A40
 clear A40
 by_cases c5 : 0 ≤ t674
 ·
  rw [if_pos c5] at H
  have c5b0 : decide (0 ≤ t674) = true := decide_eq_true c5
  clear c5
  by_cases c6 : t674 < (l0.length : Int)
  ·
   rw [if_pos c6] at H
   have c6b0 : decide (t674 < (l0.length : Int)) = true := decide_eq_true c6
   clear c6
   obtain rfl := Option.some.inj H
   go_enter Try.func42, Try.ntmps42
   go_wp2_with (first | ((with_reducible refine qaT (f := 36) rfl ?_); refine qbs (some 12) rfl rfl Try.func36 (by kernel_rfl) rfl #[.int .i64 a1, .int .i64 (l0.length : Int)] rfl (by (try simp only [List.map_toArray, List.map_cons, List.map_nil]); first | done | rfl | (simp only [List.length_drop, List.length_take]; rfl)) ?_; (with_reducible refine (qcc.calls a1 (l0.length : Int) t674 _ A4.out).mono ?_); rintro e w' ⟨rfl, ⟨nd, rfl⟩⟩; refine ⟨_, rfl, ?_⟩; have p675 : 0 ≤ (t674 : Int) := of_decide_eq_true (by first | (with_reducible assumption) | assumption); have q675 : t674 < (l0.length : Int) := of_decide_eq_true (by first | (with_reducible assumption) | assumption); obtain ⟨qCO, e675, qBR⟩ := Kd.at_int HR0.out t674 p675 q675; cases e675; replace p675 := eq_true p675; replace q675 := eq_true q675))
   go_ret
   exact ⟨by first | rfl | (simp; done) | (simp [*]; done), by repeat (first | exact qbF.refl _ | apply qbF.step)⟩
  rw [if_neg c6] at H
  exact absurd H (by simp)
 rw [if_neg c5] at H
 exact absurd H (by simp)
end Go.Proofs.Ytmhomdohhihlcaa.P
namespace Go.Proofs.Ytmhomdohhihlcaa.P
open Go.RowKit Go.Proofs.YtmhomdohhihlcaaW.PrintWords Go.Proofs.YtmhomdohhihlcaaW.PrintLast Go.Proofs.YtmhomdohhihlcaaW.PrintMore
attribute [local go_sem] qb2 qb4 qcg qch qbQ qbR qb3 qb5
def qc0.f (a0_0 : Int) (a0_1 : Int) (a1 : Int) : Option (Bool) := (qba.f a1 a0_0 a0_1).bind fun t677 => (some t677)
set_option maxHeartbeats 8000000 in
set_option maxRecDepth 100000 in
theorem qc0.calls (a0_0 : Int) (a0_1 : Int) (a1 : Int) (r : Bool) (w : World) (h : qc0.f a0_0 a0_1 a1 = some r) :
  Calls Try.prog 44 #[.agg #[.int .i64 a0_0, .int .i64 a0_1], .int .i64 a1] w fun e w' => e = .returned (.bool r) ∧ Below w.heap.size w w' := by
 have hu25 := Try.underlying25
 have HB := qaa.mk (Below.refl w.heap.size w)
 have H : ((qba.f a1 a0_0 a0_1).bind fun t677 => (some t677)) = some r := h
 clear h
 replace H := Option.bind_eq_some_iff.mp H
 obtain ⟨t677, A30, H⟩ := H
 replace H : (some t677) = some r := H
 have A3 := qaa.mk A30
 clear A30
 obtain rfl := Option.some.inj H
 go_enter Try.func44, Try.ntmps44
 go_wp2_with (first | ((with_reducible refine qa1 (N := 2) rfl ?_); refine qbq ?hg (N := 2) ?hd (cs := #[.int .i64 a0_0, .int .i64 a0_1]) (t := 25) ?hr ?_; (case hd => rfl); (case hg => rfl); (case hr => first | (go_simp; done) | (go_simp; rfl)); intro qnH hg w4 hbox hb; have n0_ := qaa.mk (qaA (by repeat (first | (with_reducible first | exact HB.out | apply qag | apply qad | apply qah) | exact HB.out)) hb); have n1_ := qaa.mk (hbox); have n2_ := qaa.mk ((by rw [hg]; exact (qav (by repeat (first | (with_reducible first | exact HB.out | apply qag | apply qad | apply qah) | exact HB.out))) : w.heap.size ≤ qnH)); have n3_ := qaa.mk ((by rw [hg]; exact (qav (by repeat (first | (with_reducible first | exact HB.out | apply qag | apply qad | apply qah) | exact HB.out))) : w.heap.size ≤ qnH)); clear HB; have HB := n0_; have qnr := n1_; have qCE := n2_; have qt1 := n3_; clear n0_ n1_ n2_ n3_; clear hb hbox hg; have qB5 : w4.cell? ⟨qnH, 0, none⟩ = some (.int .i64 a0_0) := (qai qnr.out 0).trans rfl; have qB6 : w4.cell? ⟨qnH, 1, none⟩ = some (.int .i64 a0_1) := (qai qnr.out 1).trans rfl; have qB7 := qaj qnr.out 0; have qB8 := qaj qnr.out 1) | ((with_reducible refine qaT (f := 34) rfl ?_); refine qbs (some 10) rfl rfl Try.func34 (by kernel_rfl) rfl #[.int .i64 a1, .int .i64 a0_0, .int .i64 a0_1] rfl (by (try simp only [List.map_toArray, List.map_cons, List.map_nil]); first | done | rfl | (simp only [List.length_drop, List.length_take]; rfl)) ?_; (with_reducible refine (qba.calls a1 a0_0 a0_1 t677 _ A3.out).mono ?_); rintro e w' ⟨rfl, ⟨nd, rfl⟩⟩; refine ⟨_, rfl, ?_⟩))
 go_ret
 exact ⟨by first | rfl | (simp [qaO, qaP] <;> rfl) | (simp [*, qaO, qaP] <;> rfl), by repeat (first | (with_reducible first | exact HB.out | apply qag | apply qad | apply qah | refine qaf ?_ qt1.out) | exact HB.out)⟩
end Go.Proofs.Ytmhomdohhihlcaa.P
namespace Go.Proofs.Ytmhomdohhihlcaa.P
open Go.RowKit Go.Proofs.YtmhomdohhihlcaaW.PrintWords Go.Proofs.YtmhomdohhihlcaaW.PrintLast Go.Proofs.YtmhomdohhihlcaaW.PrintMore
def ar6 (n : List Int) : List Value := [.int .i64 (rd n 0), .int .i64 (rd n 1), .int .i64 (rd n 2), .int .i64 (rd n 3), .int .i64 (rd n 4), .int .i64 (rd n 5)]
def Is6 (W : World) (g : Nat) (n : List Int) : Prop := W.heap[g]? = some (.cells (ar6 n).toArray 115 (0, 0))
namespace Is6
variable {W : World} {g : Nat} {n : List Int}
theorem lt (h : Is6 W g n) : g < W.heap.size := qaN h
theorem cells (h : Is6 W g n) : W.cell? ⟨g, 0, none⟩ = some (.int .i64 (rd n 0)) ∧ W.cell? ⟨g, 1, none⟩ = some (.int .i64 (rd n 1)) ∧ W.cell? ⟨g, 2, none⟩ = some (.int .i64 (rd n 2)) ∧ W.cell? ⟨g, 3, none⟩ = some (.int .i64 (rd n 3)) ∧ W.cell? ⟨g, 4, none⟩ = some (.int .i64 (rd n 4)) ∧ W.cell? ⟨g, 5, none⟩ = some (.int .i64 (rd n 5)) :=
 ⟨(qai h 0).trans rfl, (qai h 1).trans rfl, (qai h 2).trans rfl, (qai h 3).trans rfl, (qai h 4).trans rfl, (qai h 5).trans rfl⟩
theorem frozen (h : Is6 W g n) : W.frozen? ⟨g, 0, none⟩ = false ∧ W.frozen? ⟨g, 1, none⟩ = false ∧ W.frozen? ⟨g, 2, none⟩ = false ∧ W.frozen? ⟨g, 3, none⟩ = false ∧ W.frozen? ⟨g, 4, none⟩ = false ∧ W.frozen? ⟨g, 5, none⟩ = false :=
 ⟨qaj h 0, qaj h 1, qaj h 2, qaj h 3, qaj h 4, qaj h 5⟩
theorem cell (h : Is6 W g n) (i : Nat) (hi : i < 6) : W.cell? ⟨g, i, none⟩ = some (.int .i64 (rd n i)) := by
 rw [qai h i]
 match i, hi with
 | 0, _ => rfl
 | 1, _ => rfl
 | 2, _ => rfl
 | 3, _ => rfl
 | 4, _ => rfl
 | 5, _ => rfl
 | i + 6, hi => omega
theorem celli (h : Is6 W g n) (i : Int) (h0 : 0 ≤ i) (h6 : i < 6) : W.cell? ⟨g, i.toNat, none⟩ = some (.int .i64 (rd n i)) := by
 have e := h.cell i.toNat (by omega)
 rwa [show ((i.toNat : Nat) : Int) = i by omega] at e
theorem frz (h : Is6 W g n) (i : Nat) : W.frozen? ⟨g, i, none⟩ = false := qaj h i
theorem qtl (n : List Int) (hn : n.length = 6) (i : Nat) (hi : i < 6) (x : Int) : (ar6 n).toArray.setIfInBounds i (.int .i64 x) = (ar6 (n.set i x)).toArray := by
 match n, hn with
 | [a, b, c, d, e, f], _ =>
  match i, hi with
  | 0, _ => rfl
  | 1, _ => rfl
  | 2, _ => rfl
  | 3, _ => rfl
  | 4, _ => rfl
  | 5, _ => rfl
  | i + 6, hi => omega
theorem set (h : Is6 W g n) (hn : n.length = 6) (i : Nat) (hi : i < 6) (x : Int) : Is6 (W.setCell ⟨g, i, none⟩ (.int .i64 x)) g (n.set i x) :=
 qaH h i _ (qtl n hn i hi x)
theorem seti (h : Is6 W g n) (hn : n.length = 6) (i : Int) (h0 : 0 ≤ i) (h6 : i < 6) (x : Int) : Is6 (W.setCell ⟨g, i.toNat, none⟩ (.int .i64 x)) g (n.set i.toNat x) := h.set hn i.toNat (by omega) x
theorem far (h : Is6 W g n) {p : Addr} (hp : g ≠ p.block) (u : Value) : Is6 (W.setCell p u) g n := qau h hp u
theorem alloc (h : Is6 W g n) (o : Obj) : Is6 (W.alloc o) g n := qab h o
theorem drew (h : Is6 W g n) : Is6 W.drew g n := h
theorem drewN (h : Is6 W g n) (m : Nat) : Is6 (W.drewN m) g n := h
theorem below {W1 : World} (h : Is6 W g n) (hb : Below W.heap.size W W1) : Is6 W1 g n := qar h hb
theorem put6 (h : Is6 W g n) (m : List Int) : Is6 ((((((W.setCell ⟨g, 0, none⟩ (.int .i64 (rd m 0))).setCell ⟨g, 1, none⟩ (.int .i64 (rd m 1))).setCell ⟨g, 2, none⟩ (.int .i64 (rd m 2))).setCell ⟨g, 3, none⟩ (.int .i64 (rd m 3))).setCell ⟨g, 4, none⟩ (.int .i64 (rd m 4))).setCell ⟨g, 5, none⟩ (.int .i64 (rd m 5))) g m := by
 refine qaH (qaH (qaH (qaH (qaH (qaH h 0 _ rfl) 1 _ rfl) 2 _ rfl) 3 _ rfl) 4 _ rfl) 5 _ ?_
 rfl
end Is6
theorem qpE : ∀ q, q ∈ 3 :: (Kd.int .i64).E → q ≠ 115 := by
 intro q hq
 have hq3 : q = 3 := by simpa [Kd.int, Kd.scalar] using hq
 omega
theorem qpY {W : World} {g b : Nat} {n xs : List Int} {v : Value} (h : Kd.R (Kd.int .i64) 3 W b (fun _ => True) v xs) (h6 : Is6 W g n) (j : Nat) (u : Value) : Kd.R (Kd.int .i64) 3 (W.setCell ⟨g, j, none⟩ u) b (fun _ => True) v xs :=
 Kd.R_mono (Kd.R_far (p := ⟨g, j, none⟩) (Kd.R_types h h6 qpE) (fun _ h => h.2) u) (fun _ _ => trivial)
theorem qpN (l : List Int) (h : l.length ≤ 6) : splice (ar6 []) 0 (l.map (Value.int .i64)) = ar6 l := by
 match l, h with
 | [], _ => rfl
 | [_], _ => rfl
 | [_, _], _ => rfl
 | [_, _, _], _ => rfl
 | [_, _, _, _], _ => rfl
 | [_, _, _, _, _], _ => rfl
 | [_, _, _, _, _, _], _ => rfl
 | _ :: _ :: _ :: _ :: _ :: _ :: _ :: _, h => simp at h
theorem qi8 {w W : World} {A : Option Addr} {l : List Int} (h : Kd.C (Kd.int .i64) w A l.length l) (hb : Below w.heap.size w W) (h0 : 0 < (l.map (Value.int .i64)).length) : ∃ ad, A = some ad ∧ ∀ j v, (l.map (Value.int .i64))[j]? = some v → W.cell? (ad.add j) = some v := by
 have h := Kd.C_below h hb
 rw [List.length_map] at h0
 obtain ⟨ad, e, hc⟩ := Kd.at_int h 0 (by omega) (by omega)
 refine ⟨ad, e, fun j v hv => ?_⟩
 have hj : j < l.length := by simpa using (List.getElem?_eq_some_iff.1 hv).1
 obtain ⟨ad', e', hc'⟩ := Kd.at_int h j (by omega) (by omega)
 rw [e] at e'
 cases e'
 rw [List.getElem?_map, List.getElem?_eq_getElem hj] at hv
 simp only [Option.map_some, Option.some.injEq] at hv
 rw [← hv]
 rw [show ((j : Int).toNat) = j by simp] at hc'
 rw [hc']
 simp [rd, List.getD_eq_getElem?_getD, List.getElem?_eq_getElem hj]
theorem qti {l : List Int} (hl : l.length ≤ 6) : (l.map (Value.int .i64)).length = Nat.min l.length 6 := by rw [List.length_map]; exact (Nat.min_eq_left hl).symm
theorem qtj (l : List Int) : ∀ v ∈ l.map (Value.int .i64), v.oneCell' = true := by intro v hv; obtain ⟨x, _, rfl⟩ := List.mem_map.1 hv; rfl
theorem qif {P : Program} (t e : TypeId) {i : TypeInfo} (ht : P.underlying t = some (.slice e)) (hi : P.info? e = some i) (A : Option Addr) (n c : Nat) (hc : n ≤ c) :
  ∀ W : World, (Instr.slice t (.slice A n c) none (some (.int .i64 n)) (some (.int .i64 n))).run P W = .ok (.slice A n n) W := by
 intro W
 have hel : P.elem t = e := by simp [Program.elem, ht]
 have hu : P.underlying t = some (.slice (P.elem t)) := by rw [hel]; exact ht
 have ha : (A.map fun x => x.add 0) = A := by cases A <;> simp [Addr.add]
 rw [run_slice_hm W t A n c hu .i64 .i64 n n (by omega) (by omega) (by omega), hel]
 simp [sizeOf, typeInfo, hi, sliced, Result.andThen, ha]
theorem qpX {α : Type} {d : Kd α} {e base base' n c : Nat} {ok : Nat → Prop} {W : World} {A : Option Addr} {xs : List α} (h : d.R e W base ok (.slice A n c) xs) (m : Nat) (hm : m = xs.length) : Kd.V d e W base' ok (.slice A m m) xs := by
 subst hm
 have h2 := Kd.R_reads' h
 have hf := Kd.R_F h
 rw [h2.1] at hf
 exact ⟨A, xs.length, rfl, Nat.le_refl _, hf⟩
theorem qlD {P : Program} {ops : Array Oper} {Q : Exit → Act → World → Prop} {oi : Oper} {N : Option Tmp} {a : Act} {w : World} {K : Act → World → Prop} {f : FuncId} {fn : Func} {ao : Array Operand} {ts : Array TypeId} (hf : P.funcs[f]? = some fn) (hname : (fn.name == "runtime.NumGoroutine") = false) (hb : fn.body.isSome = true) (args : Array Value) (t : Tmp)
  (hw : Region.wanted oi (yielded ops a.tmps) = true) (hN : oi.dst = N) (hop : oi.op = .call { callee := .value (.tmp t), args := ao, argTypes := ts }) (hev : a.eval (.tmp t) = .func (.func f) #[] #[]) (hargs : ao.map a.eval = args)
  (h : Calls P f args w fun e w' => ∃ v, e = .returned v ∧ K (a.put N v) w') : if Region.wanted oi (yielded ops a.tmps) = true then Oper.wp P oi a w K Q else K (a.put N undef) w := by
 refine qpw f args hw hN ?_ h
 have he := qja hf hname hb args w
 unfold execOp
 simp [hop, resolve, Deferred.ofValue, invoke, hev, hargs, he]
theorem qjb {P : Program} {ops : Array Oper} {Q : Exit → Act → World → Prop} {rest : List Oper} {oi : Oper} {a : Act} {w : World} (N : Option Tmp) (hd : oi.dst = N) (hg : oi.guard = none) {f : FuncId} {fn : Func} {ao : Array Operand} {ts : Array TypeId} (hf : P.funcs[f]? = some fn) (hname : (fn.name == "runtime.NumGoroutine") = false) (hb : fn.body.isSome = true) (args : Array Value) (t : Tmp) (bound caps : Array Value)
  (hop : oi.op = .call { callee := .value (.tmp t), args := ao, argTypes := ts }) (hev : a.eval (.tmp t) = .func (.func f) bound caps) (hargs : bound ++ ao.map a.eval ++ caps = args)
  (h : Calls P f args w fun e w' => ∃ v, e = .returned v ∧ wpList P ops Q rest (a.put N v) w') : wpList P ops Q (oi :: rest) a w := by
 refine wpList_plain hg fun K hK => ?_
 have he := qja hf hname hb args w
 have hrun : (execOp a.eval oi).run P w = .ok (.enter f args) w := by
  unfold execOp
  simp [hop, resolve, Deferred.ofValue, invoke, hev, hargs, he]
 unfold Oper.wp
 rw [hrun, Oper.upon_enter]
 refine h.mono fun e w'' hh => ?_
 obtain ⟨v, rfl, hk⟩ := hh
 subst hd
 exact hK _ _ hk
theorem qtC (d : Nat) (w : World) (x0 x1 x2 x3 x4 x5 y0 y1 y2 y3 y4 y5 : Int) :
  (Op.equalIn (d + 2) 115 (.agg #[.int .i64 x0, .int .i64 x1, .int .i64 x2, .int .i64 x3, .int .i64 x4, .int .i64 x5]) (.agg #[.int .i64 y0, .int .i64 y1, .int .i64 y2, .int .i64 y3, .int .i64 y4, .int .i64 y5])).run Try.prog w = .ok (x0 == y0 && (x1 == y1 && (x2 == y2 && (x3 == y3 && (x4 == y4 && (x5 == y5)))))) w := by
 obtain ⟨i0, hi, hz0, hz1, hz2⟩ := info_parts qi3
 have hu := Try.underlying3
 rw [Op.equalIn]
 simp only [Sem.run_bind, run_underlying Try.underlying115, Result.andThen_ok, sizeOf, typeInfo]
 simp only [Std.Legacy.Range.forIn_eq_forIn_range', Std.Legacy.Range.size, List.range'_succ]
 have he : ∀ (a b : Int) (w : World), (Op.equalIn (d + 1) 3 (.int .i64 a) (.int .i64 b)).run Try.prog w = .ok (a == b) w := fun a b w => run_equalIn_int w d 3 .i64 .i64 a b hu
 simp [forIn, part, hi, hz1, he, -beq_eq_false_iff_ne, -beq_iff_eq, -bne_iff_ne]
 repeat (split <;> simp_all [-beq_eq_false_iff_ne, -beq_iff_eq])
end Go.Proofs.Ytmhomdohhihlcaa.P
namespace Go.Proofs.Ytmhomdohhihlcaa.P
open Go.RowKit Go.Maps Go.Proofs.YtmhomdohhihlcaaW.PrintWords Go.Proofs.YtmhomdohhihlcaaW.PrintLast Go.Proofs.YtmhomdohhihlcaaW.PrintMore
theorem qtf : laidOutB Try.prog = true := by kernel_rfl
theorem qih : Keyed Try.prog 139 := Keyed.of_law (deep_law_laid qtf (m := 2) (by omega) (of_decide_eq_true (by kernel_rfl)) (by kernel_rfl) (by rw [Try.underlying139]))
theorem qpF : Try.prog.keyType 139 = true := by kernel_rfl
theorem qn4 : Try.prog.cellsOf 139 = 1 := by kernel_rfl
theorem qtB : Try.prog.cellsOf 3 = 1 := by kernel_rfl
theorem qpS : ∃ m, Try.prog.types.size = m + 1 := ⟨Try.prog.types.size - 1, by
 have : 0 < Try.prog.types.size := of_decide_eq_true (by kernel_rfl)
 omega⟩
theorem qme {c : Int} (hc : (Lit.int .i64 c).wf = true) : keyOf Try.prog 139 (.agg #[.int .i64 c]) = some (.string (keyBytes [.int .i64 c])) := by
 obtain ⟨m, hm⟩ := qpS
 have hkt := qpF
 unfold keyOf
 simp only [Try.underlying139]
 rw [if_pos (by simp [hkt, Value.formed, Try.underlying139, qn4]), hm]
 unfold Program.keyLits
 simp only [Try.underlying139, Value.cells]
 rw [if_pos (by rw [qn4]; exact ⟨rfl, by simp⟩)]
 simp [qtB, Program.keyLits, Try.underlying3, hc]
def qbi.l (x : Int) : Nat → List S136 → Int → Int → Int × Int
 | _, [], a, b => (a, b)
 | i, c :: cs, a, b => if (Go.bits .and .i64 (shr .i64 x (i : Int)) 1 == 1) = true then qbi.l x (i + 1) cs (wrap64 (a + c.f0)) (wrap64 (b + c.f1)) else qbi.l x (i + 1) cs a b
def qbi.s (cells : List S136) (x : Int) : Int × Int := qbi.l x 0 cells 0 0
theorem quB (i : Nat) : (Go.bits .and .i64 (shr .i64 0 (i : Int)) 1 == 1) = false := by
 have : shr .i64 0 (i : Int) = 0 := by simp [shr]
 rw [this]
 rfl
theorem qm2 : ∀ (cells : List S136) (i : Nat) (a b : Int), qbi.l 0 i cells a b = (a, b)
 | [], _, _, _ => rfl
 | c :: cs, i, a, b => by rw [qbi.l, if_neg (by rw [quB]; decide)]; exact qm2 cs _ _ _
def MapI (W : World) (bm : Nat) (cells : List S136) : Prop :=
 ∃ (es : Array MapEntry) (clock : Nat), W.heap[bm]? = some (.map es clock) ∧ ∀ e ∈ es.toList, ∃ c : Int, (Lit.int .i64 c).wf = true ∧ e.key = .agg #[.int .i64 c] ∧ e.val = .agg #[.int .i64 (qbi.s cells c).1, .int .i64 (qbi.s cells c).2]
theorem MapI.lt {W : World} {bm : Nat} {cells : List S136} (h : MapI W bm cells) : bm < W.heap.size := by
 obtain ⟨es, clock, hb, _⟩ := h
 exact (Array.getElem?_eq_some_iff.1 hb).1
theorem MapI.keep {W W1 : World} {bm : Nat} {cells : List S136} (h : MapI W bm cells) (hk : W1.heap[bm]? = W.heap[bm]?) : MapI W1 bm cells := by
 obtain ⟨es, clock, hb, hs⟩ := h
 exact ⟨es, clock, hk.trans hb, hs⟩
theorem qtu (w : World) : (zeroValue 136).run Try.prog w = .ok (.agg #[.int .i64 0, .int .i64 0]) w := by kernel_rfl
theorem qqs {a b : Int} (h : (Value.agg #[.int .i64 a]) = .agg #[.int .i64 b]) : a = b := by
 injection h with h
 injection h with h
 injection h with h
 injection h
theorem MapI.look {W : World} {bm : Nat} {cells : List S136} (h : MapI W bm cells) {x : Int} (hx : (Lit.int .i64 x).wf = true) :
  ∃ (b : Bool) (a1 a2 : Int), ((b = false ∧ a1 = 0 ∧ a2 = 0) ∨ (b = true ∧ a1 = (qbi.s cells x).1 ∧ a2 = (qbi.s cells x).2)) ∧
   ∀ W1 : World, W1.heap[bm]? = W.heap[bm]? → (Instr.lookup 140 (.map (some bm)) (.agg #[.int .i64 x]) true).run Try.prog W1 = .ok (.tuple #[.agg #[.int .i64 a1, .int .i64 a2], .bool b]) W1 := by
 obtain ⟨es, clock, hb, hs⟩ := h
 have hkey := qme hx
 have hks : ∀ e ∈ es.toList, ∃ l, keyOf Try.prog 139 e.key = some l := fun e he => by
  obtain ⟨c, hc, hk, _⟩ := hs e he
  exact ⟨_, by rw [hk]; exact qme hc⟩
 by_cases hex : ∃ e ∈ es.toList, e.key = .agg #[.int .i64 x]
 ·
  refine ⟨true, (qbi.s cells x).1, (qbi.s cells x).2, .inr ⟨rfl, rfl, rfl⟩, fun W1 hW => ?_⟩
  have hb1 := hW.trans hb
  rcases qih.find W1 hkey es.toList hks with ⟨h1, h2⟩ | ⟨j, e0, h1, h2, h3⟩
  · obtain ⟨e, he, hk⟩ := hex; exact absurd hk (h2 e he)
  ·
   have hm0 : e0 ∈ es.toList := List.mem_of_getElem? h2
   obtain ⟨c, hc, hk, hv⟩ := hs e0 hm0
   have hcx : c = x := qqs (hk.symm.trans h3)
   subst hcx
   simp [Instr.lookup, run_underlying Try.underlying140, MapKept.run_getObj_map hb1, qih.check W1 _ hkey, h1, Result.andThen, hv]
 ·
  refine ⟨false, 0, 0, .inl ⟨rfl, rfl, rfl⟩, fun W1 hW => ?_⟩
  have hb1 := hW.trans hb
  rcases qih.find W1 hkey es.toList hks with ⟨h1, h2⟩ | ⟨j, e0, h1, h2, h3⟩
  ·
   simp [Instr.lookup, run_underlying Try.underlying140, MapKept.run_getObj_map hb1, qih.check W1 _ hkey, h1, Result.andThen, qtu]
  · exact absurd ⟨e0, List.mem_of_getElem? h2, h3⟩ hex
theorem MapI.store {W : World} {bm : Nat} {cells : List S136} (h : MapI W bm cells) {x : Int} (hx : (Lit.int .i64 x).wf = true) :
  ∃ W1, (Instr.mapUpdate 140 (.map (some bm)) (.agg #[.int .i64 x]) (.agg #[.int .i64 (qbi.s cells x).1, .int .i64 (qbi.s cells x).2])).run Try.prog W = .ok () W1 ∧ MapI W1 bm cells ∧ W.grownBy W1 (some bm) := by
 obtain ⟨es, clock, hb, hs⟩ := h
 have hkey := qme hx
 have hks : ∀ e ∈ es.toList, ∃ l, keyOf Try.prog 139 e.key = some l := fun e he => by
  obtain ⟨c, hc, hk, _⟩ := hs e he
  exact ⟨_, by rw [hk]; exact qme hc⟩
 have hgr : ∀ o, W.grownBy (ChangeMaps.setBlock W bm o) (some bm) := fun o => ⟨rfl, rfl, rfl, by simp [ChangeMaps.setBlock], fun i _ hi => ChangeMaps.heap_setBlock_other hb _ (fun e => hi (by rw [e]))⟩
 rcases qih.find W hkey es.toList hks with ⟨h1, h2⟩ | ⟨j, e0, h1, h2, h3⟩
 ·
  refine ⟨ChangeMaps.setBlock W bm (.map (es.push ⟨.agg #[.int .i64 x], .agg #[.int .i64 (qbi.s cells x).1, .int .i64 (qbi.s cells x).2], clock⟩) (clock + 1)), ?_, ⟨_, _, ChangeMaps.heap_setBlock_same hb _, fun e he => ?_⟩, hgr _⟩
  ·
   simp [Instr.mapUpdate, run_underlying Try.underlying140, MapKept.run_getObj_map hb, qih.check W false hkey, h1, MapKept.run_setObj_map _ hb, Result.andThen, ChangeMaps.setBlock]
  ·
   simp only [Array.toList_push, List.mem_append, List.mem_singleton] at he
   rcases he with he | rfl
   · exact hs e he
   · exact ⟨x, hx, rfl, rfl⟩
 ·
  have hj : es[j]? = some e0 := by simpa using h2
  refine ⟨ChangeMaps.setBlock W bm (.map (es.modify j (fun e' => { e' with key := .agg #[.int .i64 x], val := .agg #[.int .i64 (qbi.s cells x).1, .int .i64 (qbi.s cells x).2] })) clock), ?_, ⟨_, _, ChangeMaps.heap_setBlock_same hb _, fun e he => ?_⟩, hgr _⟩
  ·
   simp [Instr.mapUpdate, run_underlying Try.underlying140, MapKept.run_getObj_map hb, qih.check W false hkey, h1, hj, h3, qih.stays W hkey, MapKept.run_setObj_map _ hb, Result.andThen, ChangeMaps.setBlock]
  ·
   rw [Array.toList_modify, ChangeMaps.modify_eq_set _ _ _ _ h2] at he
   rcases List.mem_or_eq_of_mem_set he with he | rfl
   · exact hs e he
   · exact ⟨x, hx, rfl, rfl⟩
theorem qgP {P : Program} {ops : Array Oper} {rest : List Oper} {o : Oper} {a : Act} {Q : Exit → Act → World → Prop} {W : World} (hg : o.guard = none) (m x : Operand) (t : TypeId) (hop : o.op = .lookup t m x true) {vm vx v : Value} (hm : a.eval m = vm) (hx : a.eval x = vx)
  (hrun : (Instr.lookup t vm vx true).run P W = .ok v W) (h : wpList P ops Q rest (a.put o.dst v) W) : wpList P ops Q (o :: rest) a W := by
 refine wpList_plain hg fun K' hK' => ?_
 unfold Oper.wp
 simp [execOp, hop, hm, hx, hrun, Result.andThen]
 exact hK' _ _ h
theorem qkg {P : Program} {ops : Array Oper} {rest : List Oper} {o : Oper} {a : Act} {Q : Exit → Act → World → Prop} {W W1 : World} (hg : o.guard = none) (m x y : Operand) (t : TypeId) (hop : o.op = .mapUpdate t m x y) {vm vx v : Value} (hm : a.eval m = vm) (hx : a.eval x = vx) (hy : a.eval y = v)
  (hrun : (Instr.mapUpdate t vm vx v).run P W = .ok () W1) (h : wpList P ops Q rest (a.put o.dst undef) W1) : wpList P ops Q (o :: rest) a W := by
 refine wpList_plain hg fun K' hK' => ?_
 unfold Oper.wp
 simp [execOp, hop, hm, hx, hy, hrun, Result.andThen]
 exact hK' _ _ h
theorem qtD (d : Nat) (w : World) (x0 y0 : Int) :
  (Op.equalIn (d + 2) 139 (.agg #[.int .i64 x0]) (.agg #[.int .i64 y0])).run Try.prog w = .ok (x0 == y0) w := by
 refine qp4 Try.underlying139 (by kernel_rfl) ?_
 exact qn5 (by rfl) (by go_simp; rfl) (by go_simp; rfl) (by go_simp)
attribute [local go_sem high] qtD
theorem qow (x : Int) (cells : List S136) (i : Nat) (h : i < cells.length) (a b : Int) : qbi.l x i (cells.drop i) a b = if (Go.bits .and .i64 (shr .i64 x (i : Int)) 1 == 1) = true then qbi.l x (i + 1) (cells.drop (i + 1)) (wrap64 (a + (qeK cells (i : Int)).f0)) (wrap64 (b + (qeK cells (i : Int)).f1)) else qbi.l x (i + 1) (cells.drop (i + 1)) a b := by
 have e : qeK cells (i : Int) = cells[i] := by simp [qeK, List.getD_eq_getElem?_getD, List.getElem?_eq_getElem h]
 rw [List.drop_eq_getElem_cons h, e]
 rfl
set_option maxHeartbeats 4000000 in
set_option maxRecDepth 100000 in
theorem qlq.calls (A : Option Addr) (n c bm : Nat) (cells : List S136) (x : Int) (w : World) (hr : Kd.C k136 w A cells.length cells) (hc : cells.length ≤ c) (hx : (Lit.int .i64 x).wf = true) (hm : MapI w bm cells) :
  Calls Try.prog 91 #[.agg #[.slice A cells.length c, .map (some bm)], .agg #[.int .i64 x]] w fun e w' =>
   e = .returned (.agg #[.int .i64 (qbi.s cells x).1, .int .i64 (qbi.s cells x).2]) ∧ MapI w' bm cells ∧ Kept w w' (fun k => k = bm) ∧ Below bm w w' := by
 obtain ⟨b, a1, a2, hcase, hrun⟩ := hm.look hx
 have qrB := Try.underlying142
 have qrA := Try.underlying139
 have qpD := Try.underlying136
 have hlt := hm.lt
 cases b with
 | true =>
  obtain ⟨rfl, rfl⟩ : a1 = (qbi.s cells x).1 ∧ a2 = (qbi.s cells x).2 := by simpa using hcase
  have HR := qaa.mk hrun
  clear hrun hcase
  obtain ⟨s1, hs1⟩ : ∃ s1, (qbi.s cells x).1 = s1 := ⟨_, rfl⟩
  obtain ⟨s2, hs2⟩ : ∃ s2, (qbi.s cells x).2 = s2 := ⟨_, rfl⟩
  rw [hs1, hs2] at HR ⊢
  go_enter Try.func91, Try.ntmps91
  go_wp2_with (at_lookup; refine qgP rfl _ _ 140 rfl rfl rfl (HR.out _ ?hw) ?_; (case hw => exact (qag (qag (qag (Below.refl w.heap.size w) _) _) _).block bm hlt))
  refine bodyPost_ret (v := .agg #[.int .i64 s1, .int .i64 s2]) (by simp [results, Try.results91, go_sem]) rfl ⟨rfl, ?_⟩
  have hB := qag (qag (qag (qag (Below.refl w.heap.size w) (.cells #[.slice A cells.length c, .map (some bm)] 142)) (.cells #[.int .i64 x] 139)) (.cells #[.int .i64 s1, .int .i64 s2] 136)) (.cells #[.int .i64 s1, .int .i64 s2] 136)
  exact ⟨hm.keep (hB.block bm hlt), Kept.of_below hB _, hB.mono (by omega)⟩
 | false =>
  obtain ⟨rfl, rfl⟩ : a1 = 0 ∧ a2 = 0 := by simpa using hcase
  have HR := qaa.mk hrun
  have HM := qaa.mk hm
  clear hrun hcase hm
  by_cases hx0 : x = 0
  ·
   subst hx0
   have hs1 : (qbi.s cells 0).1 = 0 := by rw [qbi.s, qm2]
   have hs2 : (qbi.s cells 0).2 = 0 := by rw [qbi.s, qm2]
   rw [hs1, hs2]
   go_enter Try.func91, Try.ntmps91
   go_wp2_with (at_lookup; refine qgP rfl _ _ 140 rfl rfl rfl (HR.out _ ?hw) ?_; (case hw => exact (qag (qag (qag (Below.refl w.heap.size w) _) _) _).block bm hlt))
   refine bodyPost_ret (v := .agg #[.int .i64 0, .int .i64 0]) (by simp [results, Try.results91, go_sem]) rfl ⟨rfl, ?_⟩
   have hB := qag (qag (qag (qag (Below.refl w.heap.size w) (.cells #[.slice A cells.length c, .map (some bm)] 142)) (.cells #[.int .i64 0] 139)) (.cells #[.int .i64 0, .int .i64 0] 136)) (.cells #[.int .i64 0, .int .i64 0] 136)
   exact ⟨HM.out.keep (hB.block bm hlt), Kept.of_below hB _, hB.mono (by omega)⟩
  ·
   have hxb : (x == 0) = false := by simpa using hx0
   have HRd := qaa.mk hr
   have hmx : cells.length ≤ 9223372036854775807 := hr.2.1
   clear hr
   obtain ⟨sm, hsm⟩ : ∃ sm, qbi.s cells x = sm := ⟨_, rfl⟩
   have HSM := qaa.mk hsm
   rw [hsm]
   clear hsm
   go_enter Try.func91, Try.ntmps91
   go_wp2_with (at_lookup; refine qgP rfl _ _ 140 rfl rfl rfl (HR.out _ ?hw) ?_; (case hw => exact (qag (qag (qag (Below.refl w.heap.size w) _) _) _).block bm hlt))
   go_loopg [26] cells.length (fun d v26 wr => ∃ (i : Nat), v26 = .int .i64 (i : Int) ∧ qaa (i + d = cells.length) ∧ qaa (∃ a b, wr.heap[w.heap.size + 1 + 1 + 1]? = some (.cells #[.int .i64 a, .int .i64 b] 136 (0, 0)) ∧ qbi.l x i (cells.drop i) a b = sm) ∧
    qaa (wr.heap[w.heap.size]? = some (.cells #[.slice A cells.length c, .map (some bm)] 142 (0, 0)) ∧ wr.heap[w.heap.size + 1]? = some (.cells #[.int .i64 x] 139 (0, 0)) ∧ wr.heap[w.heap.size + 1 + 1]? = some (.cells #[.int .i64 0, .int .i64 0] 136 (0, 0))) ∧ qaa (Below w.heap.size w wr))
   case atStart =>
    refine ⟨0, rfl, ⟨by omega⟩, ⟨0, 0, ?_, HSM.out⟩, ⟨?_, ?_, ?_⟩, ⟨qag (qag (qag (qag (Below.refl w.heap.size w) _) _) _) _⟩⟩
    ·
     have := World.alloc_heap_new (((w.alloc (.cells #[.slice A cells.length c, .map (some bm)] 142)).alloc (.cells #[.int .i64 x] 139)).alloc (.cells #[.int .i64 0, .int .i64 0] 136)) (.cells #[.int .i64 0, .int .i64 0] 136)
     rwa [World.size_alloc, World.size_alloc, World.size_alloc] at this
    · exact qab (qab (qab (World.alloc_heap_new w _) _) _) _
    ·
     refine qab (qab ?_ _) _; have := World.alloc_heap_new (w.alloc (.cells #[.slice A cells.length c, .map (some bm)] 142)) (.cells #[.int .i64 x] 139)
     rwa [World.size_alloc] at this
    ·
     refine qab ?_ _; have := World.alloc_heap_new ((w.alloc (.cells #[.slice A cells.length c, .map (some bm)] 142)).alloc (.cells #[.int .i64 x] 139)) (.cells #[.int .i64 0, .int .i64 0] 136)
     rwa [World.size_alloc, World.size_alloc] at this
   case round =>
    obtain ⟨i, rfl, HD, HN, HK, HB⟩ := hrel; obtain ⟨a, b, hn, hl⟩ := HN.out; obtain ⟨hb0, hb1, hb2⟩ := HK.out; have hc00 : wr.cell? ⟨w.heap.size, 0, none⟩ = some (.slice A cells.length c) := (qai hb0 0).trans rfl; have hc01 : wr.cell? ⟨w.heap.size, 1, none⟩ = some (.map (some bm)) := (qai hb0 1).trans rfl; have hc1 : wr.cell? ⟨w.heap.size + 1, 0, none⟩ = some (.int .i64 x) := (qai hb1 0).trans rfl; have hc20 : wr.cell? ⟨w.heap.size + 1 + 1, 0, none⟩ = some (.int .i64 0) := (qai hb2 0).trans rfl; have hc21 : wr.cell? ⟨w.heap.size + 1 + 1, 1, none⟩ = some (.int .i64 0) := (qai hb2 1).trans rfl; have hf20 := qaj hb2 0; have hf21 := qaj hb2 1; have hc30 : wr.cell? ⟨w.heap.size + 1 + 1 + 1, 0, none⟩ = some (.int .i64 a) := (qai hn 0).trans rfl; have hc31 : wr.cell? ⟨w.heap.size + 1 + 1 + 1, 1, none⟩ = some (.int .i64 b) := (qai hn 1).trans rfl; have hf30 := qaj hn 0; have hf31 := qaj hn 1; have hlw := qaN hn; have hbx : ∃ W, W = wr := ⟨_, rfl⟩; have HN' := qaa.mk hn; have HL := qaa.mk hl; have HB0 := qaa.mk hb0; have HB1 := qaa.mk hb1; have HB2 := qaa.mk hb2; clear hn hl hb0 hb1 hb2 hbx HN HK
    by_cases hi : i < cells.length
    ·
     obtain ⟨d, rfl⟩ : ∃ d, gk = d + 1 := ⟨gk - 1, by have := HD.out; omega⟩; obtain ⟨ad, ea, hx0', hx1'⟩ := qoD HRd.out (i : Int) (by omega) (by omega); subst ea; replace hx0' := (HB.out.cell (World.block_lt_of_cell? w _ hx0')).trans hx0'; replace hx1' := (HB.out.cell (World.block_lt_of_cell? w _ hx1')).trans hx1'; rw [Int.toNat_natCast] at hx0' hx1'; have hst := qow x cells i hi a b; obtain ⟨ji4, hji4⟩ : ∃ j_ : Int, (shr .i64 x (i : Int)) = j_ := ⟨_, rfl⟩; rw [hji4] at hst; have hji4_ : (x / 2 ^ min ((i : Int)).toNat 64) = ji4 := hji4; have hji4z : (i : Int) ≤ 64 → (x / 2 ^ ((i : Int)).toNat) = ji4 := qqo hji4; rw [Int.toNat_natCast] at hji4_ hji4z; clear hji4; obtain ⟨e0, he0⟩ : ∃ e0, (qeK cells (i : Int)).f0 = e0 := ⟨_, rfl⟩; obtain ⟨e1, he1⟩ : ∃ e1, (qeK cells (i : Int)).f1 = e1 := ⟨_, rfl⟩; rw [he0, he1] at hst; rw [he0] at hx0'; rw [he1] at hx1'; clear he0 he1; have hBa := qag (Below.refl wr.heap.size wr) (.cells #[.int .i64 e0, .int .i64 e1] 136); have HBa := qaa.mk hBa; have ha1 : (wr.alloc (.cells #[.int .i64 e0, .int .i64 e1] 136)).cell? ⟨w.heap.size + 1, 0, none⟩ = some (.int .i64 x) := (qai (qar HB1.out hBa) 0).trans rfl; have ha30 : (wr.alloc (.cells #[.int .i64 e0, .int .i64 e1] 136)).cell? ⟨w.heap.size + 1 + 1 + 1, 0, none⟩ = some (.int .i64 a) := (qai (qar HN'.out hBa) 0).trans rfl; have ha31 : (wr.alloc (.cells #[.int .i64 e0, .int .i64 e1] 136)).cell? ⟨w.heap.size + 1 + 1 + 1, 1, none⟩ = some (.int .i64 b) := (qai (qar HN'.out hBa) 1).trans rfl; have qCP := qaj (qar HN'.out hBa) 0; have qCQ := qaj (qar HN'.out hBa) 1; clear hBa hc00 hc01 hc20 hc21 hf20 hf21
     by_cases hbit : (Go.bits .and .i64 ji4 1 == 1) = true
     ·
      rw [if_pos hbit] at hst; have HL2 := qaa.mk (hst.symm.trans HL.out); clear hst
      go_wp2
      go_roundg d
      case measure => omega
      case rel =>
       refine ⟨i + 1, by simp, ⟨by have := HD.out; omega⟩, ⟨_, _, qab (qaH (qaH HN'.out 0 _ rfl) 1 _ rfl) _, HL2.out⟩, ⟨?_, ?_, ?_⟩, ⟨qag (qaf (qaf HB.out (by omega)) (by omega)) _⟩⟩
       · exact qab (qau (qau HB0.out (p := ⟨w.heap.size + 1 + 1 + 1, 0, none⟩) (by simp; omega) _) (p := ⟨w.heap.size + 1 + 1 + 1, 1, none⟩) (by simp; omega) _) _
       · exact qab (qau (qau HB1.out (p := ⟨w.heap.size + 1 + 1 + 1, 0, none⟩) (by simp) _) (p := ⟨w.heap.size + 1 + 1 + 1, 1, none⟩) (by simp) _) _
       · exact qab (qau (qau HB2.out (p := ⟨w.heap.size + 1 + 1 + 1, 0, none⟩) (by simp) _) (p := ⟨w.heap.size + 1 + 1 + 1, 1, none⟩) (by simp) _) _
     ·
      replace hbit := Bool.eq_false_iff.mpr hbit; rw [if_neg (by rw [hbit]; decide)] at hst; have HL2 := qaa.mk (hst.symm.trans HL.out); clear hst
      go_wp2
      go_roundg d
      case measure => omega
      case rel =>
       exact ⟨i + 1, by simp, ⟨by have := HD.out; omega⟩, ⟨_, _, qab HN'.out _, HL2.out⟩, ⟨qab HB0.out _, qab HB1.out _, qab HB2.out _⟩, ⟨qag HB.out _⟩⟩
    ·
     have hil : i = cells.length := by have := HD.out; omega
     subst hil
     have hfin : (a, b) = sm := by
      have h5 := HL.out; rw [List.drop_length] at h5
      exact h5
     have HSM2 := qaa.mk (show qbi.s cells x = (a, b) by rw [hfin]; exact HSM.out); subst hfin; clear HL HSM; obtain ⟨W1, qpA, hm1, hg1⟩ := (HM.out.keep (HB.out.block bm hlt)).store hx; rw [HSM2.out] at qpA
     have hne : ∀ k, w.heap.size ≤ k → some k ≠ some bm := fun k hk e => by injection e with e; omega
     have kp : ∀ {g : Nat} {o : Obj}, w.heap.size ≤ g → wr.heap[g]? = some o → W1.heap[g]? = some o := fun {g o} hg ho => (hg1.block g (Array.getElem?_eq_some_iff.1 ho).1 (hne g hg)).trans ho
     have hd30 : W1.cell? ⟨w.heap.size + 1 + 1 + 1, 0, none⟩ = some (.int .i64 a) := (qai (kp (by omega) HN'.out) 0).trans rfl; have hd31 : W1.cell? ⟨w.heap.size + 1 + 1 + 1, 1, none⟩ = some (.int .i64 b) := (qai (kp (by omega) HN'.out) 1).trans rfl; have hd20 : W1.cell? ⟨w.heap.size + 1 + 1, 0, none⟩ = some (.int .i64 0) := (qai (kp (by omega) HB2.out) 0).trans rfl; have hd21 : W1.cell? ⟨w.heap.size + 1 + 1, 1, none⟩ = some (.int .i64 0) := (qai (kp (by omega) HB2.out) 1).trans rfl; have qCS := qaj (kp (by omega) HB2.out) 0; have qCT := qaj (kp (by omega) HB2.out) 1; have HG1 := qaa.mk hg1; have HM1 := qaa.mk hm1; have HRU := qaa.mk qpA; have HF2 := qaa.mk (kp (by omega) HB2.out); clear hg1 hm1 qpA kp hne
     go_wp2_with (at_mapUpdate; refine qkg rfl _ _ _ 140 rfl rfl rfl rfl HRU.out ?_)
     refine bodyPost_ret (v := .agg #[.int .i64 a, .int .i64 b]) ?_ rfl ⟨rfl, ?_⟩
     · refine (results_cell_row rfl _ _ (w.heap.size + 1 + 1) 136 #[.int .i64 a, .int .i64 b] (0, 0) _ rfl (qaH (qaH HF2.out 0 _ rfl) 1 _ rfl) Try.underlying136 rfl (by kernel_rfl))
     ·
      have hK1 : Kept w W1 (fun k => k = bm) := (Kept.of_below HB.out _).of_grown HG1.out (fun k e => .inl (by cases e; rfl)); have hB1 : Below bm w W1 := (HB.out.mono (by omega)).grown HG1.out (by omega) (fun k e => by cases e; omega); refine ⟨HM1.out.keep ?_, ?_, ?_⟩
      · exact (Below.heap_setCell _ _ _ bm (by simp; omega)).trans (Below.heap_setCell _ _ _ bm (by simp; omega))
      · exact (hK1.setCell (.inr (by simp; omega)) _).setCell (.inr (by simp; omega)) _
      · exact Below.setCell (Below.setCell hB1 (p := ⟨w.heap.size + 1 + 1, 0, none⟩) (by show bm ≤ w.heap.size + 1 + 1; omega) _) (p := ⟨w.heap.size + 1 + 1, 1, none⟩) (by show bm ≤ w.heap.size + 1 + 1; omega) _
end Go.Proofs.Ytmhomdohhihlcaa.P
namespace Go.Proofs.Ytmhomdohhihlcaa.P
open Go.RowKit Go.Proofs.YtmhomdohhihlcaaW.PrintWords Go.Proofs.YtmhomdohhihlcaaW.PrintLast Go.Proofs.YtmhomdohhihlcaaW.PrintMore
section
variable {l n : Nat} {P : Program} {ops : Array Oper} {Q : Exit → Act → World → Prop}
theorem qmi {o : Oper} {a : Act} {w : World} {K : Act → World → Prop} (ho : ∀ c, o.op ≠ .defer c) (h : o.wp P a w K Q) : o.wpIn (Fence.wide.inRound l) n P a w K Q := by
 unfold Oper.wp at h
 refine ⟨fun f _ => trivial, ?_⟩
 rw [Oper.semAt_plain _ _ _ ho]
 generalize (execOp a.eval o).run P w = r at *
 cases r with
 | ok x w' =>
  cases x <;> simp only [Oper.upon, Oper.uponIn] at h ⊢ <;>
   first
    | exact h
    | exact ⟨fun e => by simp [Fence.wide] at e, CallsIn.inRound l (callsIn_wide.2 h)⟩
    | exact ⟨fun e => by simp [Fence.wide] at e, fun c cs _ => let ⟨v, w', r, s⟩ := h c cs; ⟨v, w', r, stepsIn_wide.2 s⟩⟩
 | halt x w' => cases x <;> simp only [Oper.upon, Oper.uponIn] at h ⊢ <;> exact h
def qm1 (ops : Array Oper) : Prop := ∀ (i : Nat) (o : Oper), ops[i]? = some o → ∀ c, o.op ≠ .defer c
theorem qpG {ops : Array Oper} (h : ops.all (fun o => match o.op with | .defer _ => false | _ => true) = true) : qm1 ops := by
 intro i o ho c hc
 have hi := (Array.getElem?_eq_some_iff.1 ho).1
 have := Array.all_eq_true.1 h i hi
 rw [(Array.getElem?_eq_some_iff.1 ho).2, hc] at this
 cases this
theorem qpH {i : Nat} {a : Act} {w : World} {K : Act → World → Prop} (hno : ¬ LetsOut Q) (hd : qm1 ops) (h : wpOp P ops Q i K a w) : wpOpIn (Fence.wide.inRound l) n P ops Q i K a w := by
 unfold wpOp at h
 unfold wpOpIn
 split
 ·
  simpa [*] using h
 ·
  rename_i o ho
  simp only [ho] at h
  split
  ·
   rename_i hw
   simp only [hw, if_true] at h
   rcases h with h | ⟨_, h⟩
   · exact qmi (hd i o ho) h
   · exact absurd h hno
  · rename_i hw; simp only [hw] at h; exact ⟨fun _ _ => trivial, h⟩
theorem qnV {md : Region.Mode} (hno : ¬ LetsOut Q) (hd : qm1 ops) : ∀ (fuel : Nat) (listed : Array Bool) (a : Act) (w : World), wpAny P md ops Q fuel listed a w → wpAnyIn (Fence.wide.inRound l) n P md ops Q fuel listed a w := by
 intro fuel
 induction fuel with
 | zero => exact fun _ _ _ h => h
 | succ fuel ih =>
  intro listed a w h
  exact ⟨h.1, fun i hi => qpH hno hd (wpOp_mono (fun a w => ih _ a w) (h.2 i hi))⟩
theorem qhZ (hno : ¬ LetsOut Q) : ∀ (l1 : List Oper) (a : Act) (w : World), (∀ o ∈ l1, ∀ c, o.op ≠ .defer c) → wpList P ops Q l1 a w → wpListIn (Fence.wide.inRound l) n P ops Q l1 a w
 | [], _, _, _, h => h
 | o :: rest, a, w, hd, h => by
  unfold wpList at h
  unfold wpListIn
  split
  ·
   rename_i hw
   simp only [hw, if_true] at h
   rcases h with h | ⟨_, h⟩
   · exact Oper.wpIn_mono (fun a w hh => qhZ hno rest a w (fun o ho => hd o (List.mem_cons_of_mem _ ho)) hh) (qmi (hd o List.mem_cons_self) h)
   · exact absurd h hno
  · rename_i hw; rw [if_neg hw] at h; exact ⟨fun _ _ => trivial, qhZ hno rest _ w (fun o ho => hd o (List.mem_cons_of_mem _ ho)) h⟩
theorem qhH {id : Nat} {a : Act} {w : World} (hm : P.follows .mixedOrders = true) (hno : ¬ LetsOut Q) (hd : ops.all (fun o => match o.op with | .defer _ => false | _ => true) = true)
  (h : wpAny P .any ops Q ops.size (Array.replicate ops.size false) a { w with drawn := w.drawn + 1 }) : (Code.region id ops true).wpIn (Fence.wide.inRound l) n P Q a w :=
 wpIn_region_any hm (qnV hno (qpG hd) _ _ _ _ h)
theorem qnm {id : Nat} {l1 : List Oper} {a : Act} {w : World} (hno : ¬ LetsOut Q) (hd : l1.all (fun o => match o.op with | .defer _ => false | _ => true) = true) (h : wpList P l1.toArray Q l1 a w) : (Code.region id l1.toArray false).wpIn (Fence.wide.inRound l) n P Q a w :=
 wpIn_region_lit (qhZ hno l1 a w (fun o ho c hc => by have := List.all_eq_true.1 hd o ho; rw [hc] at this; cases this) h)
end
structure qcB (B : Nat) (W W' : World) : Prop where
 size : W.heap.size ≤ W'.heap.size
 same : ∀ (b : Nat) (cs : Array Value) (t : Nat), B ≤ b → t ≠ 25 → W.heap[b]? = some (.cells cs t (0, 0)) → W'.heap[b]? = some (.cells cs t (0, 0))
namespace qcB
variable {B : Nat} {W W1 W2 : World}
theorem refl (B : Nat) (W : World) : qcB B W W := ⟨Nat.le_refl _, fun _ _ _ _ _ h => h⟩
theorem trans (h : qcB B W W1) (k : qcB B W1 W2) : qcB B W W2 := ⟨Nat.le_trans h.size k.size, fun b cs t hb ht hk => k.same b cs t hb ht (h.same b cs t hb ht hk)⟩
theorem of_grown (h : W.grownBy W1 none) : qcB B W W1 := ⟨h.size, fun b cs t _ _ hk => (h.block b (Array.getElem?_eq_some_iff.1 hk).1 (by simp)).trans hk⟩
theorem put (l : Nat) (o o' : Obj) (hl : W.heap[l]? = some o) (ho : o.isCells = false) : qcB B W (W.putObj l o') :=
 ⟨by simp, fun b cs t _ _ hk => by
  by_cases e : b = l
  · subst e; rw [hl] at hk; cases hk; cases ho
  ·
   exact (World.putObj_heap_other e).trans hk⟩
end qcB
theorem qkv {W W1 : World} {B : Nat} {v : Value} {xs : List Int} {ok : Nat → Prop} (h : Kd.R (Kd.int .i64) 3 W B ok v xs) (k : qcB B W W1) : Kd.R (Kd.int .i64) 3 W1 B ok v xs :=
 Kd.R_mono (Kd.R_move (Kd.R_bound h) (fun b hb => by
  obtain ⟨_, h1, h2, q, hq, cs, hc⟩ := hb
  have hq3 : q = 3 := by simpa [Kd.int, Kd.scalar] using hq
  subst hq3
  rw [hc]
  exact k.same b cs 3 h1 (by decide) hc)) (fun _ hb => hb.1)
def qkh (n : Nat) (P : Program) (g : Nat) (lb : Array Value) (B : Nat) (xs : List (List Int)) (w : World) : Prop :=
 ∀ (l : Nat) (J : List (List Int) → World → Prop) (W : World), Below w.heap.size w W →
  (∀ W1 W2 row, J [] W1 → W1.grownBy W2 row → (∀ r, row = some r → W.heap.size ≤ r) → J [] W2) →
  (∀ pre W1 W2, J pre W1 → W1.grownBy W2 none → J pre W2) →
  (∀ pre v x W1, J pre W1 → pre ++ [x] <+: xs → Kd.R (Kd.int .i64) 3 W1 B (fun _ => True) v x → YieldAt Fence.wide (n - 1) P l #[v] W1 fun e W' => e = .returned (.bool true) ∧ J (pre ++ [x]) W' ∧ qcB B W1 W') →
  J [] W → CallsIn Fence.wide n P g (#[.func (.yield l) #[] #[]] ++ lb) W fun e W' => (∃ v, e = .returned v) ∧ J xs W'
def qop (B Bl : Nat) (I : List (List Int) → World → Prop) (xs : List (List Int)) (W : World) : Exit → Act → World → Prop
 | .normal, _, W' => KeepsFrom Bl W W' ∧ qcB B W W' ∧ I xs W'
 | _, _, _ => False
theorem qm5 {n : Nat} {P : Program} {g : Operand} {p : Tmp} {assign body : Code} {Q : Exit → Act → World → Prop} {a : Act} {w : World}
  {gf : Nat} {lb : Array Value} (hg : a.eval g = .func (.func gf) #[] lb) (eg : ∀ args w, (callFunc gf args).run P w = .ok (.enter gf args) w)
  {B : Nat} {xs : List (List Int)} {w0 : World} (hseq : qkh (n - 1) P gf lb B xs w0) (hb0 : Below w0.heap.size w0 w)
  (I : List (List Int) → World → Prop) (hI : OwnFrom w.heap.size I) (hI0 : ∀ W1 W2 row, I [] W1 → W1.grownBy W2 row → (∀ r, row = some r → w.heap.size ≤ r) → I [] W2) (h0 : I [] w) (a₁ : Value → Act)
  (hassign : ∀ (l : Nat) (v : Value) (W : World) (K : Act → World → Prop), K (a₁ v) W →
   assign.wpIn (Fence.wide.inRound l) (n - 1 - 1) P (Exit.then K (fun _ _ _ => False)) { tmps := (#[p].zip #[v]).foldl (fun t (p, v) => t.setIfInBounds p v) a.tmps, defers := [] } W)
  (hbody : ∀ (l : Nat) (pre : List (List Int)) (v : Value) (x : List Int) (W : World), I pre W → pre ++ [x] <+: xs → Kd.R (Kd.int .i64) 3 W B (fun _ => True) v x → body.wpIn (Fence.wide.inRound l) (n - 1 - 1) P (qop B w.heap.size I (pre ++ [x]) W) (a₁ v) W)
  (hdone : ∀ (D : Nat) (W : World), w.heap.size ≤ D → I xs W → W.heap[D]? = some (.deferred (some [])) → Q .normal { a with defers := { target := .collected D, args := #[] } :: a.defers } W) :
  (Code.rangeFunc g #[p] assign body).wpIn Fence.wide n P Q a w := by
 refine wpIn_rangeFunc ?_
 intro fn hfn
 rw [show Fence.wide.round = none from rfl]
 obtain ⟨rec, hrec⟩ : ∃ rec : LoopState → Option Code → Loop, rec = fun st pe => { state := st, pending := pe, fn, tmps := a.tmps, params := #[p], assign, body, defers := w.heap.size } := ⟨_, rfl⟩
 obtain ⟨W1, hW1⟩ : ∃ W1, (w.alloc (.deferred (some []))).alloc (.loop (rec .ready none)) = W1 := ⟨_, rfl⟩
 have hL1 : W1.heap[w.heap.size + 1]? = some (.loop (rec .ready none)) := by
  rw [← hW1]; have := World.alloc_heap_new (w.alloc (.deferred (some []))) (.loop (rec .ready none)); rwa [World.size_alloc] at this
 have hK1 : W1.heap[w.heap.size]? = some (.deferred (some [])) := by
  rw [← hW1]; exact (Below.heap_alloc _ _ _ (by simp)).trans (World.alloc_heap_new w _)
 have hs1 : W1.heap.size = w.heap.size + 2 := by rw [← hW1]; simp
 have hI1 : I [] W1 := by rw [← hW1]; exact hI.alloc _ (hI.alloc _ h0)
 have hb1 : Below w0.heap.size w0 W1 := by
  rw [← hW1]; exact hb0.trans ((((Below.refl _ w).alloc (Nat.le_refl _) _).alloc (by simp) _).mono hb0.size)
 refine ⟨w.heap.size + 1, [{ target := .collected w.heap.size, args := #[] }], W1, { target := .fn (.func gf) lb, args := #[.func (.yield (w.heap.size + 1)) #[] #[]] }, W1, gf,
  #[.func (.yield (w.heap.size + 1)) #[] #[]] ++ lb, W1, ?_, ?_, ?_, ?_, fun e => by simp [Fence.wide] at e, ?_⟩
 · rw [← hW1, hrec]; exact run_enterLoop_outer _ _ _ _ _
 ·
  simp only [resolve, hg]
  simp [go_sem]
 · intro f' hf'; trivial
 ·
  simp [invoke, go_sem, eg]
 ·
  refine (hseq (w.heap.size + 1)
   (fun pre W => I pre W ∧ W.heap[w.heap.size + 1]? = some (.loop (rec .ready none)) ∧ W.heap[w.heap.size]? = some (.deferred (some [])))
   W1 hb1
   (fun A C row hs hg' hr => ?_) (fun pre A C hs hg' => ?_) ?_ ⟨hI1, hL1, hK1⟩).mono ?_
  ·
   have k1 : ∀ k o, k < w.heap.size + 2 → A.heap[k]? = some o → C.heap[k]? = some o := fun k o hk ho =>
    (hg'.block k (Array.getElem?_eq_some_iff.1 ho).1 (fun e => by have := hr k e.symm; omega)).trans ho
   exact ⟨hI0 A C row hs.1 hg' (fun r e => by have := hr r e; omega), k1 _ _ (by omega) hs.2.1, k1 _ _ (by omega) hs.2.2⟩
  ·
   have k1 : ∀ k o, A.heap[k]? = some o → C.heap[k]? = some o := fun k o ho => (hg'.block k (Array.getElem?_eq_some_iff.1 ho).1 (by simp)).trans ho
   exact ⟨hI pre A C none hs.1 hg' (fun r e => by cases e), k1 _ _ hs.2.1, k1 _ _ hs.2.2⟩
  ·
   rintro pre v x W ⟨hi, hl, hk⟩ hpre hrow
   have hlt : w.heap.size + 1 < W.heap.size := (Array.getElem?_eq_some_iff.1 hl).1
   have hy := run_yield (P := P) (args := #[v]) hl (by rw [hrec]; rfl)
   rw [hrec] at hy
   refine ⟨fn, _, assign, body, hy, roundIn_of_wpIn hfn (hassign _ v W _ ⟨_, run_beginRound hl (by rw [hrec]), ?_⟩)⟩
   have hl2 : (W.putObj (w.heap.size + 1) (.loop { rec .ready none with state := .busy })).heap[w.heap.size + 1]? = some (.loop { rec .ready none with state := .busy }) := World.putObj_heap_same hlt
   have hk2 : (W.putObj (w.heap.size + 1) (.loop { rec .ready none with state := .busy })).heap[w.heap.size]? = some (.deferred (some [])) := (World.putObj_heap_other (by omega)).trans hk
   have hw2 : qcB B W (W.putObj (w.heap.size + 1) (.loop { rec .ready none with state := .busy })) := .put _ _ _ hl rfl
   refine wpIn_mono (hbody _ pre v x _ (hI.putObj _ hi (by omega) hl rfl) hpre (qkv hrow hw2)) ?_
   rintro e a3 W3 hp
   cases e with
   | normal =>
    obtain ⟨hk3, hkp3, hi3⟩ := hp; have hl3 := hk3.same _ _ (by omega) hl2 rfl; have hr := run_endRound (P := P) none hl3; rw [hrec] at hr; refine ⟨_, _, hr, ?_⟩; rw [hrec] at hl3; refine ⟨rfl, ⟨hI.putObj _ hi3 (by omega) hl3 rfl, ?_, (World.putObj_heap_other (by omega)).trans (hk3.same _ _ (Nat.le_refl _) hk2 rfl)⟩, (hw2.trans hkp3).trans (.put _ _ _ hl3 rfl)⟩; rw [hrec]
    exact World.putObj_heap_same (Array.getElem?_eq_some_iff.1 hl3).1
   | ret => exact hp.elim
   | exit id => exact hp.elim
   | goto t => exact hp.elim
   | panic ch => exact hp.elim
   | outgrown => exact hp.elim
  · rintro e W2 ⟨⟨v, rfl⟩, hi, hl, hk⟩; exact ⟨none, _, by have := run_endLoop (P := P) hl (by rw [hrec]; simp); rw [hrec] at this; exact this, hdone _ _ (Nat.le_refl _) (hI.putObj _ hi (by omega) hl rfl) ((World.putObj_heap_other (by omega)).trans hk)⟩
end Go.Proofs.Ytmhomdohhihlcaa.P
