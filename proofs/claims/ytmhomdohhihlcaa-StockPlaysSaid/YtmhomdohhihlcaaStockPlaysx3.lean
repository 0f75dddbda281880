/- What the statement StockPlays leans on, part 4 of 6: contracts of the program's functions; conditions: none. -/
import Derived.WalkMore
import Derived.StillTailTactics
import Derived.Lib.SliceRun
import Derived.Outline
import Derived.Test.YtmhomdohhihlcaaStockPlaysx0
import Derived.Test.YtmhomdohhihlcaaStockPlaysx2
set_option linter.unusedVariables false
set_option linter.unusedSimpArgs false
set_option linter.constructorNameAsVariable false
namespace Go.Proofs.Ytmhomdohhihlcaa.P
open Go.RowKit Go.Shelf Go.Proofs.YtmhomdohhihlcaaW.PrintWords Go.Proofs.YtmhomdohhihlcaaW.PrintLast Go.Proofs.YtmhomdohhihlcaaW.PrintMore
attribute [local go_sem] Oper.semAt_some
section
variable {F : Fence} {n : Nat} {P : Program} {a : Act} {w : World} {Q : Exit → Act → World → Prop}
theorem qfO {b : Frame} {c : Code} {k : List Item} {cs : List Frame} : step P (lone (b.atR a (.code (.scope c) :: k)) cs w) = .next (lone (b.atR a (.code c :: .inScope c :: k)) cs w) :=
 step_lone_go (by simp [stepG, stepG.exec, Frame.atR])
theorem qm4 {b : Frame} {c : Code} {k : List Item} {cs : List Frame} : step P (lone (b.atR a (.inScope c :: k)) cs w) = .next (lone (b.atR a k) cs w) :=
 step_lone_go (by simp [stepG, stepG.exec, Frame.atR])
theorem qpz {c : Code} (h : c.wpIn F n P (Exit.noGoto Q) a w) : (Code.scope c).wpIn F n P Q a w := by
 intro b k cs hro hb hr
 have h0 : (lone (b.atR a (.code (.scope c) :: k)) cs w).fenced P F := fenced_calm hb hr rfl
 obtain ⟨e, a₁, w₁, hq, harr⟩ := h b (.inScope c :: k) cs hro hb hr
 cases e with
 | normal => exact ⟨.normal, a₁, w₁, hq, .head h0 qfO (StepsIn.trans harr (.one (fenced_calm hb hr rfl) qm4))⟩
 | exit id' =>
  have hx : exitTo id' (.inScope c :: k) = exitTo id' k := by simp [exitTo]
  exact ⟨.exit id', a₁, w₁, hq, fun k' hk => .head h0 qfO (harr.1 k' (by rw [hx]; exact hk)),
    fun hr' hk => let ⟨k₁, h1, h2⟩ := harr.2 hr' (by rw [hx]; exact hk); ⟨k₁, h1, .head h0 qfO h2⟩⟩
 | goto l => exact hq.elim
 | ret => exact ⟨_, a₁, w₁, hq, .of_steps (.one h0 qfO) harr⟩
 | panic ch => exact ⟨_, a₁, w₁, hq, .of_steps (.one h0 qfO) harr⟩
 | outgrown => exact ⟨_, a₁, w₁, hq, .of_steps (.one h0 qfO) harr⟩
end
structure Stop (p : Prop) : Prop where
 out : p
theorem qj3 {l n : Nat} {P : Program} {id : Nat} {Q : Exit → Act → World → Prop} {a : Act} {w : World} {ops : List Oper} (m : Nat) (hm : P.follows .mixedOrders = true) (hno : ¬ LetsOut Q) (hd : ops.toArray.all (fun o => match o.op with | .defer _ => false | _ => true) = true) (hB : Region.lexTailB .any ops.toArray m = true)
  (h : wpStill P ops.toArray { w with drawn := w.drawn + 1 } (fun a' => wpList P ops.toArray Q (ops.drop m) a' { w with drawn := w.drawn + 1 }) (ops.take m) a) : (Code.region id ops.toArray true).wpIn (Fence.wide.inRound l) n P Q a w := by
 simp only [Region.lexTailB, Bool.and_eq_true, decide_eq_true_eq] at hB
 obtain ⟨⟨⟨⟨hsel, hn⟩, hs⟩, hc⟩, hlex⟩ := hB
 have hn' : m < ops.length := by simpa using hn
 have htl : (ops.take m).length = m := by simp; omega
 have hdl : (ops.drop m).length = ops.toArray.size - m := by simp
 have inv0 : HeadInv .any ops.toArray m (Array.replicate ops.toArray.size false) :=
  ⟨by simp, fun j oj _ hl => (by rw [getD_replicate_false] at hl; cases hl), fun t _ ht => getD_in (by simpa using ht) (getD_replicate_false _ _)⟩
 have H := wpAnyL_lex (md := .any) (g := ops.toArray.size - m) hsel hs hc hn (ops.take m) 0 _ a (fun j hj => by
  have hj' : j < m := by rw [htl] at hj; exact hj
  simp [hj']) (by simpa using htl) inv0 (by rw [htl]; exact hlex) h
 refine qhj hm hno hd ?_
 have := wpAny_of_head (Q' := Q) (g := ops.toArray.size - m) (fun listed a' hL => by
  have := wpAny_of_seq (md := .any) (Q' := Q) (ops.drop m) m listed a' { w with drawn := w.drawn + 1 } (fun j => by simp [List.getElem?_drop]) (by rw [hdl]; exact hL.1) hL.2
  rwa [hdl] at this) _ _ _ H
 rw [htl, show m + (ops.toArray.size - m) = ops.toArray.size by omega] at this
 exact this
def qay.ag (k : Nat) (l0 : List (List S25)) (l1 : List S25) (mix : List Int) : Nat → Int → Option Bool
 | 0, _ => some true
 | d + 1, i => (qa1.f k 0 mix l0 i).bind fun lo => if wrap64 (100 * (qbE l1 i).f1) < lo then some false else
   (qaX.f k 0 mix l0 i).bind fun hi => if hi < wrap64 (100 * (qbE l1 i).f0) then some false else qay.ag k l0 l1 mix d (i + 1)
def qay.wide (out : List S25) (mix : List Int) : List S25 := (out.zip mix).map fun p => ⟨if p.2 < p.1.f0 then p.2 else p.1.f0, if p.1.f1 < p.2 then p.2 else p.1.f1⟩
def qay.st (k : Nat) (l0 : List (List S25)) (l1 : List S25) (out : List S25) (mix : List Int) : Option (List S25) :=
 (qay.ag k l0 l1 mix l1.length 0).map fun b => if b then qay.wide (if out = [] then mix.map (fun n => ⟨n, n⟩) else out) mix else out
def qay.all (k : Nat) (l0 : List (List S25)) (l1 : List S25) : List (List Int) → List S25 → Option (List S25)
 | [], out => some out
 | x :: xs, out => (qay.st k l0 l1 out x).bind fun o => qay.all k l0 l1 xs o
def qay.sg (k : Nat) (n : Int) : List (List S25) → Bool → Option Bool
 | [], ok => some ok
 | x :: xs, ok => if ok then (qaO.f k x n).bind fun b => qay.sg k n xs b else qay.sg k n xs false
def qay.f (k : Nat) (l0 : List (List S25)) (l1 : List S25) : Option (List S25 × Int) :=
 (qat.f (l0.length : Int) 1 3).bind fun b0 => (if b0 then qaO.f k l1 (l1.length : Int) else some false).bind fun b1 =>
 (qay.sg k (l1.length : Int) l0 b1).bind fun ok => if ok then
  (qay.all k l0 l1 (qf5 (l0.length - 1) 100 []) []).map fun out => if out = [] then ([], 4) else (out, 0)
 else some ([], 91)
def qfJ (o : List S25) (x : List Int) (j : Nat) : List S25 := qay.wide (o.take j) (x.take j) ++ o.drop j
theorem qpK (o : List S25) (x : List Int) : qfJ o x 0 = o := by simp [qfJ, qay.wide]
theorem qqm {o : List S25} {x : List Int} (h : o.length = x.length) : qfJ o x x.length = qay.wide o x := by
 unfold qfJ
 rw [List.take_length, ← h, List.take_length, List.drop_length, List.append_nil]
theorem qmX {o : List S25} {x : List Int} (h : o.length = x.length) {j : Nat} (hj : j ≤ x.length) : (qfJ o x j).length = x.length := by
 simp [qfJ, qay.wide]; omega
theorem qq0 {o : List S25} {x : List Int} (h : o.length = x.length) {j : Nat} (hj : j < x.length) : (qfJ o x j).getD j z25 = o.getD j z25 := by
 have hl : (qay.wide (o.take j) (x.take j)).length = j := by simp [qay.wide]; omega
 unfold qfJ
 rw [List.getD_eq_getElem?_getD, List.getD_eq_getElem?_getD, List.getElem?_append_right (by omega), hl, Nat.sub_self, List.getElem?_drop, Nat.add_zero]
theorem qpO {o : List S25} {x : List Int} (h : o.length = x.length) {j : Nat} (hj : j < x.length) {p : S25} (hp : (qfJ o x j).getD j z25 = p) :
  (qfJ o x j).set j ⟨if rd x (j : Int) < p.f0 then rd x (j : Int) else p.f0, if p.f1 < rd x (j : Int) then rd x (j : Int) else p.f1⟩ = qfJ o x (j + 1) := by
 rw [qq0 h hj] at hp
 have hjo : j < o.length := by omega
 have hl : (qay.wide (o.take j) (x.take j)).length = j := by simp [qay.wide]; omega
 have e1 : o[j] = p := by rw [← hp]; simp [List.getD_eq_getElem?_getD, List.getElem?_eq_getElem hjo]
 have e2 : rd x (j : Int) = x[j] := by simp [rd, List.getD_eq_getElem?_getD, List.getElem?_eq_getElem hj]
 unfold qfJ
 rw [List.set_append_right _ _ (by omega), hl, Nat.sub_self, List.drop_eq_getElem_cons hjo, List.set_cons_zero, List.take_succ_eq_append_getElem hjo, List.take_succ_eq_append_getElem hj, e2]
 unfold qay.wide
 rw [List.zip_append (by simp; omega), List.map_append, List.append_assoc]
 simp [e1]
theorem qay.ag_mono (l0 : List (List S25)) (l1 : List S25) (mix : List Int) (k : Nat) : ∀ (d : Nat) (i : Int), LeO (qay.ag k l0 l1 mix d i) (qay.ag (k + 1) l0 l1 mix d i)
 | 0, _ => LeO.refl _
 | d + 1, i => LeO.bind (qa1.mono _ _ _ _ _) (fun _ => LeO.ite (LeO.refl _) (LeO.bind (qaX.mono _ _ _ _ _) (fun _ => LeO.ite (LeO.refl _) (qay.ag_mono l0 l1 mix k d (i + 1)))))
theorem qay.all_mono (l0 : List (List S25)) (l1 : List S25) (k : Nat) : ∀ (xs : List (List Int)) (o : List S25), LeO (qay.all k l0 l1 xs o) (qay.all (k + 1) l0 l1 xs o)
 | [], _ => LeO.refl _
 | x :: xs, o => LeO.bind (LeO.map _ (qay.ag_mono l0 l1 x k _ _)) (fun o2 => qay.all_mono l0 l1 k xs o2)
theorem qay.sg_mono (n : Int) (k : Nat) : ∀ (xs : List (List S25)) (b : Bool), LeO (qay.sg k n xs b) (qay.sg (k + 1) n xs b)
 | [], _ => LeO.refl _
 | x :: xs, b => LeO.ite (LeO.bind (qaO.mono _ _ _) (fun b2 => qay.sg_mono n k xs b2)) (qay.sg_mono n k xs false)
theorem qay.mono : ∀ (l0 : List (List S25)) (l1 : List S25) (k : Nat), LeO (qay.f k l0 l1) (qay.f (k + 1) l0 l1) := fun l0 l1 k =>
 LeO.bind (LeO.refl _) (fun b0 => LeO.bind (by cases b0 <;> first | exact qaO.mono _ _ _ | exact LeO.refl _) (fun b1 => LeO.bind (qay.sg_mono _ _ _ _) (fun ok => LeO.ite (LeO.map _ (qay.all_mono l0 l1 k _ _)) (LeO.refl _))))
structure qfB (w : World) (A0 : Option Addr) (c0 n0 : Nat) (A1 : Option Addr) (c1 n1 : Nat) (W : World) : Prop where
 b2 : W.heap[w.heap.size]? = some (.cells #[.slice A0 n0 c0] 31 (0, 0))
 b3 : W.heap[w.heap.size + 1]? = some (.cells #[.slice A1 n1 c1] 32 (0, 0))
 below : Below w.heap.size w W
theorem qfB.keep {w : World} {A0 A1 : Option Addr} {c0 n0 c1 n1 : Nat} {W W1 : World} (h : qfB w A0 c0 n0 A1 c1 n1 W) (hb : Below W.heap.size W W1) : qfB w A0 c0 n0 A1 c1 n1 W1 :=
 ⟨qam h.b2 hb, qam h.b3 hb, h.below.trans (hb.mono h.below.size)⟩
theorem qfB.drew {w : World} {A0 A1 : Option Addr} {c0 n0 c1 n1 : Nat} {W : World} (h : qfB w A0 c0 n0 A1 c1 n1 W) (m : Nat) : qfB w A0 c0 n0 A1 c1 n1 (W.drewN m) :=
 ⟨h.b2, h.b3, qab h.below m⟩
theorem qou {k : Nat} {n : Int} : ∀ {l : List (List S25)} {b : Bool}, qay.sg k n l b = some true → b = true
 | [], b, h => by simpa [qay.sg] using h
 | x :: l, true, _ => rfl
 | x :: l, false, h => by
  rw [qay.sg, if_neg (by decide)] at h
  exact qou h
theorem qoh {a b c : Int} (h : qat.f a b c = some true) : b ≤ a ∧ a ≤ c := by
 unfold qat.f at h
 by_cases h1 : b ≤ a
 ·
  rw [if_pos h1] at h
  exact ⟨h1, by simpa using h⟩
 ·
  rw [if_neg h1] at h
  simp at h
theorem qnS {n : Nat} {P : Program} {g : Operand} {p q : Tmp} {assign body : Code} {Q : Exit → Act → World → Prop} {a : Act} {w : World}
  {gf : Nat} {lb : Array Value} (hg : a.eval g = .func (.func gf) #[] lb) (eg : ∀ args w, (callFunc gf args).run P w = .ok (.enter gf args) w)
  {B : Nat} {xs : List (List Int)} {w0 : World} (hseq : qj6 (n - 1) P gf lb B xs w0) (hb0 : Below w0.heap.size w0 w)
  (I : List (List Int) → World → Prop) (hI : OwnFrom w.heap.size I) (hI0 : ∀ W1 W2 row, I [] W1 → W1.grownBy W2 row → (∀ r, row = some r → w.heap.size ≤ r) → I [] W2) (h0 : I [] w)
  (hassign : ∀ (l : Nat) (v : Value) (W : World) (K : Act → World → Prop), K { tmps := (a.tmps.setIfInBounds p v).setIfInBounds q v, defers := [] } W →
   assign.wpIn (Fence.wide.inRound l) (n - 1 - 1) P (Exit.then K (fun _ _ _ => False)) { tmps := a.tmps.setIfInBounds p v, defers := [] } W)
  (hbody : ∀ (l : Nat) (pre : List (List Int)) (v : Value) (x : List Int) (W : World), I pre W → pre ++ [x] <+: xs → Kd.R (Kd.int .i64) 3 W B (fun _ => True) v x → body.wpIn (Fence.wide.inRound l) (n - 1 - 1) P (qnN B w.heap.size I (pre ++ [x]) W) { tmps := (a.tmps.setIfInBounds p v).setIfInBounds q v, defers := [] } W)
  (hdone : ∀ (D : Nat) (W : World), w.heap.size ≤ D → I xs W → W.heap[D]? = some (.deferred (some [])) → Q .normal { a with defers := { target := .collected D, args := #[] } :: a.defers } W) :
  (Code.rangeFunc g #[p] assign body).wpIn Fence.wide n P Q a w :=
 qmj hg eg hseq hb0 I hI hI0 h0 (fun v => { tmps := (a.tmps.setIfInBounds p v).setIfInBounds q v, defers := [] }) (fun l v W K hK => by
  have := hassign l v W K hK
  simpa using this) hbody hdone
structure ShI (w : World) (k : Nat) (l0 : List (List S25)) (l1 : List S25) (A0 : Option Addr) (c0 : Nat) (A1 : Option Addr) (c1 lb hb ob B : Nat) (pre : List (List Int)) (W : World) : Prop where
 ex : ∃ (v : Value) (out : List S25), qay.all k l0 l1 pre [] = some out ∧ W.heap[ob]? = some (.cells #[v] 32 (0, 0)) ∧ Kd.R k25 25 W B (fun _ => True) v out ∧ (v = .slice none 0 0 ↔ out = [])
 bx : qfB w A0 c0 l0.length A1 c1 l1.length W
 lo : W.heap[lb]? = some (.cells #[.func (.func 68) #[] #[]] 104 (0, 0))
 hi : W.heap[hb]? = some (.cells #[.func (.func 69) #[] #[]] 104 (0, 0))
 sz : B ≤ W.heap.size
theorem qgs {W W1 : World} {row : Option Nat} (hg : W.grownBy W1 row) (hr : ∀ r, row = some r → ∃ o : Obj, W.heap[r]? = some o ∧ o.isCells = false) {g t : Nat} {cs : Array Value} {x : Nat × Nat} (h : W.heap[g]? = some (.cells cs t x)) : W1.heap[g]? = some (.cells cs t x) :=
 (hg.block g (Array.getElem?_eq_some_iff.1 h).1 (fun e => by obtain ⟨o, ho, hc⟩ := hr g e.symm; rw [h] at ho; cases ho; cases hc)).trans h
theorem ShI.step {w : World} {k : Nat} {l0 : List (List S25)} {l1 : List S25} {A0 A1 : Option Addr} {c0 c1 lb hb ob B : Nat} {pre : List (List Int)} {W W1 : World} {row : Option Nat} (h : ShI w k l0 l1 A0 c0 A1 c1 lb hb ob B pre W)
  (hg : W.grownBy W1 row) (hr : ∀ r, row = some r → w.heap.size ≤ r ∧ ∃ o : Obj, W.heap[r]? = some o ∧ o.isCells = false) : ShI w k l0 l1 A0 c0 A1 c1 lb hb ob B pre W1 := by
 have hr2 : ∀ r, row = some r → ∃ o : Obj, W.heap[r]? = some o ∧ o.isCells = false := fun r e => (hr r e).2
 obtain ⟨v, out, h1, h2, h3, h4⟩ := h.ex
 refine ⟨⟨v, out, h1, qgs hg hr2 h2, ?_, h4⟩, ⟨qgs hg hr2 h.bx.b2, qgs hg hr2 h.bx.b3, h.bx.below.grown hg h.bx.below.size (fun r e => (hr r e).1)⟩, qgs hg hr2 h.lo, qgs hg hr2 h.hi, Nat.le_trans h.sz hg.size⟩
 refine Kd.R_mono (Kd.R_move (Kd.R_bound h3) (fun b hb => ?_)) (fun _ _ => trivial)
 obtain ⟨_, _, _, q, _, cs, hc⟩ := hb
 rw [hc]
 exact qgs hg hr2 hc
theorem _root_.Go.Proofs.YtmhomdohhihlcaaW.PrintWords.Kd.R_types2 {α : Type} {d : Kd α} {e : Nat} {w : World} {base : Nat} {ok : Nat → Prop} {v : Value} {xs : List α} (h : d.R e w base ok v xs) {g : Nat} {x : Option (List Deferred)} (hb : w.heap[g]? = some (.deferred x)) : d.R e w base (fun k => ok k ∧ k ≠ g) v xs :=
 Kd.R_mono (Kd.R_bound h) (fun k hk => ⟨hk.1, by
  obtain ⟨_, _, _, q, hq, cells', hc⟩ := hk
  rintro rfl
  rw [hc] at hb
  cases hb⟩)
theorem qh3 {k : Nat} {l0 : List (List S25)} {l1 : List S25} : ∀ (a b : List (List Int)) (o : List S25), qay.all k l0 l1 (a ++ b) o = (qay.all k l0 l1 a o).bind fun o2 => qay.all k l0 l1 b o2
 | [], b, o => rfl
 | x :: a, b, o => by
  simp only [List.cons_append, qay.all, Option.bind_assoc]
  congr 1
  funext o2
  exact qh3 a b o2
theorem qqT (out : List S25) (mix : List Int) : (qay.wide out mix).length = min out.length mix.length := by simp [qay.wide]
theorem qov {k : Nat} {l0 : List (List S25)} {l1 : List S25} {R : Nat} : ∀ (a : List (List Int)) (o r : List S25), (∀ x ∈ a, x.length = R) → (o = [] ∨ o.length = R) → qay.all k l0 l1 a o = some r → r = [] ∨ r.length = R
 | [], o, r, _, ho, h => by
  injection h with h
  rw [← h]
  exact ho
 | x :: a, o, r, ha, ho, h => by
  obtain ⟨o2, h1, h2⟩ := Option.bind_eq_some_iff.1 h
  refine qov a o2 r (fun y hy => ha y (List.mem_cons_of_mem _ hy)) ?_ h2
  obtain ⟨b, _, h3⟩ := Option.map_eq_some_iff.1 h1
  have hx := ha x List.mem_cons_self
  cases b with
  | false => rw [← h3]; exact ho
  | true =>
   rw [← h3, if_pos rfl, qqT]
   right
   by_cases hz : o = []
   ·
    rw [if_pos hz, List.length_map]; omega
   ·
    rw [if_neg hz]; have := ho.resolve_left hz; omega
theorem qmZ : ∀ (m : Nat) (left : Int) (b x : List Int), x ∈ qf5 m left b → x.length = b.length + m + 1
 | 0, left, b, x, h => by
  rw [qf5, List.mem_singleton] at h
  simp [h]
 | m + 1, left, b, x, h => by
  rw [qf5] at h
  obtain ⟨n, _, h⟩ := List.mem_flatMap.1 h
  have := qmZ m _ _ x h
  simp at this
  omega
theorem qfP {Bl B : Nat} {W W1 : World} (hb : Below W.heap.size W W1) : KeepsFrom Bl W W1 ∧ qcz B W W1 :=
 ⟨⟨hb.size, fun k o _ hk _ => (hb.block k (Array.getElem?_eq_some_iff.1 hk).1).trans hk⟩, ⟨hb.size, fun b cs t _ _ hk => (hb.block b (Array.getElem?_eq_some_iff.1 hk).1).trans hk⟩⟩
theorem ShI.same {w : World} {k : Nat} {l0 : List (List S25)} {l1 : List S25} {A0 A1 : Option Addr} {c0 c1 lb hb ob B : Nat} {pre : List (List Int)} {x : List Int} {W W1 : World} (h : ShI w k l0 l1 A0 c0 A1 c1 lb hb ob B pre W)
  (hbl : Below W.heap.size W W1) (hx : ∀ out, qay.all k l0 l1 pre [] = some out → qay.all k l0 l1 (pre ++ [x]) [] = some out) : ShI w k l0 l1 A0 c0 A1 c1 lb hb ob B (pre ++ [x]) W1 := by
 obtain ⟨v, out, h1, h2, h3, h4⟩ := h.ex
 exact ⟨⟨v, out, hx out h1, qam h2 hbl, Kd.R_below h3 hbl, h4⟩, h.bx.keep hbl, qam h.lo hbl, qam h.hi hbl, Nat.le_trans h.sz hbl.size⟩
structure ShO (w : World) (A0 : Option Addr) (c0 n0 : Nat) (A1 : Option Addr) (c1 n1 lb hb ob B : Nat) (Ax : Option Addr) (x : List Int) (W z : World) (o : List S25) : Prop where
 kf : KeepsFrom (B + 1) W z
 kr : qcz B W z
 bx : qfB w A0 c0 n0 A1 c1 n1 z
 lo : z.heap[lb]? = some (.cells #[.func (.func 68) #[] #[]] 104 (0, 0))
 hi : z.heap[hb]? = some (.cells #[.func (.func 69) #[] #[]] 104 (0, 0))
 ex : ∃ v, z.heap[ob]? = some (.cells #[v] 32 (0, 0)) ∧ Kd.R k25 25 z B (fun _ => True) v o ∧ (v = .slice none 0 0 ↔ o = [])
 cx : Kd.C (Kd.int .i64) z Ax x.length x
 sz : B ≤ z.heap.size
theorem qdK {W W1 : World} {B : Nat} {v : Value} {o : List S25} (hr : Kd.R k25 25 W B (fun _ => True) v o) (hg : W.grownBy W1 v.ownBlock) {g t : Nat} {cs : Array Value} (ht : t ≠ 25) (h : W.heap[g]? = some (.cells cs t (0, 0))) : W1.heap[g]? = some (.cells cs t (0, 0)) :=
 (hg.block g (Array.getElem?_eq_some_iff.1 h).1 (fun e => by
  obtain ⟨cells, hc⟩ := qge hr.2.choose_spec.1 g e.symm
  rw [h] at hc
  injection hc with hc
  injection hc with _ hc
  exact ht hc)).trans h
theorem ShO.app {w : World} {A0 A1 Ax : Option Addr} {c0 n0 c1 n1 lb : Nat} {x : List Int} {W z z3 : World} {o o2 : List S25} {v v3 : Value} (h : ShO w A0 c0 n0 A1 c1 n1 lb (lb + 1) (lb + 2) (lb + 3) Ax x W z o) (hwl : w.heap.size + 2 ≤ lb)
  (hb : z.heap[lb + 2]? = some (.cells #[v] 32 (0, 0))) (hr : Kd.R k25 25 z (lb + 3) (fun _ => True) v o) (hg : z.grownBy z3 v.ownBlock) (hr3 : Kd.R k25 25 z3 (lb + 3) (fun _ => True) v3 o2) (hv : v3 = .slice none 0 0 ↔ o2 = [])
  {nx cx : Nat} (hrow : Kd.R (Kd.int .i64) 3 W (lb + 3) (fun _ => True) (.slice Ax nx cx) x) : ShO w A0 c0 n0 A1 c1 n1 lb (lb + 1) (lb + 2) (lb + 3) Ax x W (z3.setCell ⟨lb + 2, 0, none⟩ v3) o2 := by
 have hb3 := qdK hr hg (by decide) hb
 have hbk : Below (lb + 3) z z3 := (Below.refl _ z).grown hg h.sz (fun k e => (Kd.R_bound hr).1 k e |>.2.1)
 have hof : ∀ (k : Nat) (ob : Obj), ob.isCells = false → z.heap[k]? = some ob → (z3.setCell ⟨lb + 2, 0, none⟩ v3).heap[k]? = some ob := fun k ob hob hk => by
  refine (Below.heap_setCell z3 ⟨lb + 2, 0, none⟩ v3 k (fun e => ?_)).trans ((hg.block k (Array.getElem?_eq_some_iff.1 hk).1 (fun e => ?_)).trans hk)
  ·
   have e2 : k = lb + 2 := e
   rw [e2, hb] at hk
   cases hk
   cases hob
  ·
   obtain ⟨cells, hc⟩ := qge hr.2.choose_spec.1 k e.symm
   rw [hk] at hc
   cases hc
   cases hob
 have hsz : (z3.setCell ⟨lb + 2, 0, none⟩ v3).heap.size = z3.heap.size := by simp
 have kr' : qcz (lb + 3) W (z3.setCell ⟨lb + 2, 0, none⟩ v3) := ⟨Nat.le_trans h.kr.size (by rw [hsz]; exact hg.size), fun b cs t hb1 ht hk => (Below.heap_setCell z3 ⟨lb + 2, 0, none⟩ v3 b (fun e => by have e2 : b = lb + 2 := e; omega)).trans (qdK hr hg ht (h.kr.same b cs t hb1 ht hk))⟩
 refine ⟨⟨Nat.le_trans h.kf.size (by rw [hsz]; exact hg.size), fun k ob hk1 hk hob => hof k ob hob (h.kf.same k ob hk1 hk hob)⟩, kr',
  ⟨qao (qdK hr hg (by decide) h.bx.b2) (p := ⟨lb + 2, 0, none⟩) (by simp; omega) _, qao (qdK hr hg (by decide) h.bx.b3) (p := ⟨lb + 2, 0, none⟩) (by simp; omega) _, qah (h.bx.below.trans (hbk.mono (by omega))) (by omega)⟩,
  qao (qdK hr hg (by decide) h.lo) (p := ⟨lb + 2, 0, none⟩) (by simp) _, qao (qdK hr hg (by decide) h.hi) (p := ⟨lb + 2, 0, none⟩) (by simp) _,
  ⟨v3, qaE hb3 0 _ rfl, Kd.R_mono (Kd.R_far (p := ⟨lb + 2, 0, none⟩) (Kd.R_types hr3 hb3 (by decide)) (fun _ hk => hk.2) _) (fun _ _ => trivial), hv⟩, (Kd.R_reads' (qki hrow kr')).2.2, by rw [hsz]; exact Nat.le_trans h.sz hg.size⟩
theorem qst : (Try.prog.info? 25).map (·.size) = some 2 ∧ True := ⟨by
 have h := qqx
 cases hi : Try.prog.info? 25 with
 | none => rw [hi] at h; simp at h
 | some i => rw [hi] at h; simp at h; simp [h.2.1], trivial⟩
theorem ShO.put {w : World} {A0 A1 Ax : Option Addr} {c0 n0 c1 n1 lb : Nat} {x : List Int} {W z z3 : World} {o o1 o2 : List S25} {go n cap : Nat} (h : ShO w A0 c0 n0 A1 c1 n1 lb (lb + 1) (lb + 2) (lb + 3) Ax x W z o1) (hwl : w.heap.size + 2 ≤ lb)
  (hb : z.heap[lb + 2]? = some (.cells #[.slice (some ⟨go, 0, none⟩) n cap] 32 (0, 0))) (hr : Kd.R k25 25 z (lb + 3) (fun _ => True) (.slice (some ⟨go, 0, none⟩) n cap) o) (hg : z.grownBy z3 (some go)) (hr3 : Kd.R k25 25 z3 (lb + 3) (fun _ => True) (.slice (some ⟨go, 0, none⟩) n cap) o2) (hv : o2 ≠ [])
  {nx cx : Nat} (hrow : Kd.R (Kd.int .i64) 3 W (lb + 3) (fun _ => True) (.slice Ax nx cx) x) : ShO w A0 c0 n0 A1 c1 n1 lb (lb + 1) (lb + 2) (lb + 3) Ax x W z3 o2 := by
 have hg' : z.grownBy z3 (Value.slice (some ⟨go, 0, none⟩) n cap).ownBlock := hg
 have hbk : Below (lb + 3) z z3 := (Below.refl _ z).grown hg' h.sz (fun k e => (Kd.R_bound hr).1 k e |>.2.1)
 have hof : ∀ (k : Nat) (ob : Obj), ob.isCells = false → z.heap[k]? = some ob → z3.heap[k]? = some ob := fun k ob hob hk => by
  refine (hg'.block k (Array.getElem?_eq_some_iff.1 hk).1 (fun e => ?_)).trans hk
  obtain ⟨cells, hc⟩ := qge hr.2.choose_spec.1 k e.symm
  rw [hk] at hc
  cases hc
  cases hob
 have kr' : qcz (lb + 3) W z3 := ⟨Nat.le_trans h.kr.size hg.size, fun b cs t hb1 ht hk => qdK hr hg' ht (h.kr.same b cs t hb1 ht hk)⟩
 refine ⟨⟨Nat.le_trans h.kf.size hg.size, fun k ob hk1 hk hob => hof k ob hob (h.kf.same k ob hk1 hk hob)⟩, kr',
  ⟨qdK hr hg' (by decide) h.bx.b2, qdK hr hg' (by decide) h.bx.b3, ?_⟩, qdK hr hg' (by decide) h.lo, qdK hr hg' (by decide) h.hi,
  ⟨_, qdK hr hg' (by decide) hb, hr3, ⟨fun e => (by cases e), fun e => absurd e hv⟩⟩, (Kd.R_reads' (qki hrow kr')).2.2, Nat.le_trans h.sz hg.size⟩
 exact h.bx.below.trans (hbk.mono (by omega))
theorem qqG (R : Int) (w : World) : Calls Try.prog 70 #[.int .i64 R] w fun e w' => e = .returned (.func (.func 95) #[] #[.pointer (some ⟨w.heap.size, 0, none⟩)]) ∧ w' = w.alloc (.cells #[.int .i64 R] 3) := by
 go_enter Try.func70, Try.ntmps70
 go_wp2
 go_ret
 exact ⟨rfl, rfl⟩
set_option maxHeartbeats 8000000 in
set_option maxRecDepth 100000 in
theorem qay.calls (k : Nat) (A0 : Option Addr) (c0 : Nat) (l0 : List (List S25)) (A1 : Option Addr) (c1 : Nat) (l1 : List S25) (r1 : List S25) (r2 : Int) (w : World) (hr0 : Kd.C (Kd.slice 25 k25) w A0 l0.length l0) (hc0 : l0.length ≤ c0) (hr1 : Kd.C k25 w A1 l1.length l1) (hc1 : l1.length ≤ c1) (h : qay.f k l0 l1 = some (r1, r2)) :
  Calls Try.prog 22 #[.slice A0 l0.length c0, .slice A1 l1.length c1] w fun e w' => ∃ v0_, e = .returned (.tuple #[v0_, .int .i64 r2]) ∧ Kd.V k25 25 w' w.heap.size (fun k_ => w.heap.size ≤ k_) v0_ r1 ∧ Below w.heap.size w w' := by
 refine (callsIn_wide (n := 3)).1 ?_
 have hmix : Try.prog.follows .mixedOrders = true := by kernel_rfl
 unfold qay.f at h
 obtain ⟨b0, hb0, h⟩ := Option.bind_eq_some_iff.1 h
 obtain ⟨b1, hb1, h⟩ := Option.bind_eq_some_iff.1 h
 obtain ⟨ok, hok, h⟩ := Option.bind_eq_some_iff.1 h
 have HR0 := qaa.mk hr0
 have HC0 := qaa.mk hc0
 have HR1 := qaa.mk hr1
 have HC1 := qaa.mk hc1
 have HH := qaa.mk h
 have HB0 := qaa.mk hb0
 have HB1 := qaa.mk hb1
 have HOK := qaa.mk hok
 clear hr0 hc0 hr1 hc1 h hb0 hb1 hok
 refine callsIn_of_wp_marks Try.func22 rfl trivial ?_ rfl
 simp only [Try.ntmps22, List.size_toArray, List.length_cons, List.length_nil, Nat.reduceAdd, Nat.reduceSub, Array.replicate_succ, Array.replicate_zero, List.push_toArray, List.append_toArray, List.nil_append, List.cons_append]
 gi_wp2
 apply qpz
 have HX := qaa.mk (show qfB w A0 c0 l0.length A1 c1 l1.length ((w.alloc (.cells #[.slice A0 l0.length c0] 31)).alloc (.cells #[.slice A1 l1.length c1] 32)) from
  ⟨(Below.heap_alloc _ _ _ (by simp)).trans (World.alloc_heap_new w _), by have := World.alloc_heap_new (w.alloc (.cells #[.slice A0 l0.length c0] 31)) (.cells #[.slice A1 l1.length c1] 32); rwa [World.size_alloc] at this, qac (qac (Below.refl _ _) _) _⟩)
 have HLEN := qaa.mk (show ok = true → 1 ≤ l0.length ∧ l0.length ≤ 3 from fun e => by
  have h1 := HOK.out
  rw [e] at h1
  have h2 := qou h1
  have h3 := HB1.out
  rw [h2] at h3
  have h4 : b0 = true := by
   cases b0 with
   | true => rfl
   | false => simp at h3
  have h5 := HB0.out
  rw [h4] at h5
  have h6 := qoh h5
  omega)
 gi_upto_region 1 with (fail)
 gi_cut [6] from 19 (fun v6 wc => v6 = .bool b1 ∧ qaa (qfB w A0 c0 l0.length A1 c1 l1.length wc))
 case first =>
  cases b0 with
  | false =>
   obtain rfl : b1 = false := by have := HB1.out; simpa using this.symm
   gi_wp2_with (first | (refine ⟨trivial, (callsIn_wide.2 (qat.calls _ _ _ false _ HB0.out)).mono ?_⟩; rintro e w' ⟨rfl, ⟨nd, rfl⟩⟩) | (refine ⟨trivial, ?_⟩))
   gi_meet
   case rel => exact ⟨rfl, ⟨HX.out.drew nd⟩⟩
  | true =>
   have HA1 := qaa.mk (show qaO.f k l1 (l1.length : Int) = some b1 from HB1.out)
   gi_wp2_with (first | (refine ⟨trivial, (callsIn_wide.2 (qat.calls _ _ _ true _ HB0.out)).mono ?_⟩; rintro e w' ⟨rfl, ⟨nd, rfl⟩⟩) | (refine ⟨trivial, (callsIn_wide.2 (qaO.calls k A1 c1 l1 (l1.length : Int) b1 _ ?hx HC1.out HA1.out)).mono ?_⟩; (case hx => exact Kd.C_below HR1.out (HX.out.drew nd).below); rintro e w' ⟨rfl, hbb⟩))
   gi_meet
   case rel => exact ⟨rfl, ⟨(HX.out.drew nd).keep hbb⟩⟩
 case rest =>
  clear HX HB0 HB1
  obtain ⟨rfl, HX⟩ := hcut
  have hcz2 : wc.cell? ⟨w.heap.size, 0, none⟩ = some (.slice A0 l0.length c0) := (qaf HX.out.b2 0).trans rfl
  gi_wp2
  gi_loopg [6, 30] l0.length (fun d v6 v30 wr => ∃ (b : Bool) (i : Nat), v6 = .bool b ∧ v30 = .int .i64 (i : Int) ∧ qaa (i + d = l0.length) ∧ qaa (qay.sg k (l1.length : Int) (l0.drop i) b = some ok) ∧ qaa (qfB w A0 c0 l0.length A1 c1 l1.length wr))
  case atStart => exact ⟨b1, 0, rfl, rfl, ⟨by omega⟩, ⟨by simpa using HOK.out⟩, HX⟩
  case round =>
   clear hcz2 HX
   obtain ⟨b, i, rfl, rfl, HD, HS, HX⟩ := hrel
   have hmx : l0.length ≤ 9223372036854775807 := HR0.out.2.1
   by_cases hi : i < l0.length
   ·
    obtain ⟨d, rfl⟩ : ∃ d, gk = d + 1 := ⟨gk - 1, by have := HD.out; omega⟩; have hcz3 : wr.cell? ⟨w.heap.size + 1, 0, none⟩ = some (.slice A1 l1.length c1) := (qaf HX.out.b3 0).trans rfl; obtain ⟨ad, A2, c2, ea, hx, hc2, hr2⟩ := qpE HR0.out (i : Int) (by omega) (by omega); subst ea; replace hx := (HX.out.below.cell (World.block_lt_of_cell? w _ hx)).trans hx; rw [Int.toNat_natCast] at hx
    have hdrop : l0.drop i = qde l0 i :: l0.drop (i + 1) := by
     rw [List.drop_eq_getElem_cons hi]
     congr 1
     simp [qde, List.getD_eq_getElem?_getD, List.getElem?_eq_getElem hi]
    have HS2 := qaa.mk (show qay.sg k (l1.length : Int) (qde l0 i :: l0.drop (i + 1)) b = some ok by rw [← hdrop]; exact HS.out); have HCA := qaa.mk hr2; have HC2 := qaa.mk hc2; clear hdrop hr2 hc2
    cases b with
    | false =>
     gi_wp2_with (refine ⟨trivial, ?_⟩)
     gi_roundg d
     case measure => omega
     case rel => exact ⟨false, i + 1, rfl, by simp, ⟨by have := HD.out; omega⟩, ⟨by have := HS2.out; simpa [qay.sg] using this⟩, HX⟩
    | true =>
     obtain ⟨b3, h3, h4⟩ := Option.bind_eq_some_iff.1 (show (qaO.f k (qde l0 i) (l1.length : Int)).bind (fun b => qay.sg k (l1.length : Int) (l0.drop (i + 1)) b) = some ok by have := HS2.out; simpa [qay.sg] using this); have HS3 := qaa.mk h3; have HS4 := qaa.mk h4; clear h3 h4
     gi_wp2_with (refine ⟨trivial, (callsIn_wide.2 (qaO.calls k A2 c2 (qde l0 i) (l1.length : Int) b3 _ ?hx HC2.out HS3.out)).mono ?_⟩; (case hx => exact Kd.C_below HCA.out HX.out.below); rintro e w' ⟨rfl, hbb⟩)
     gi_roundg d
     case measure => omega
     case rel => exact ⟨b3, i + 1, rfl, by simp, ⟨by have := HD.out; omega⟩, ⟨HS4.out⟩, ⟨HX.out.keep hbb⟩⟩
   ·
    have HE := qaa.mk (show some b = some ok by have := HS.out; rw [List.drop_eq_nil_of_le (by omega)] at this; exact this); clear HS; obtain rfl : b = ok := Option.some.inj HE.out; clear HE
    cases b with
    | false =>
     have HF := HH.out; rw [if_neg (by decide)] at HF
     injection HF with HF
     injection HF with e1 e2
     subst e1 e2
     gi_wp2
     simp only [Exit.noGoto]; refine ⟨_, results_tmp2 rfl _ _ _, ?_⟩
     exact ⟨_, rfl, Kd.V_nil _ _ _ _ _, HX.out.below⟩
    | true =>
     have HF := HH.out; rw [if_pos rfl] at HF; have HF := qaa.mk HF; clear HH
     gi_wp2
     apply wpIn_label
     obtain ⟨lb, hlb⟩ : ∃ lb, wr.heap.size = lb := ⟨_, rfl⟩; obtain ⟨W0, hW0⟩ : ∃ W0, ((wr.alloc (.cells #[.func (.func 68) #[] #[]] 104)).alloc (.cells #[.func (.func 69) #[] #[]] 104)).alloc (.cells #[.slice none 0 0] 32) = W0 := ⟨_, rfl⟩
     have hwlb : w.heap.size ≤ lb := by rw [← hlb]; exact HX.out.below.size
     have qrx : w.heap.size + 2 ≤ lb := by have := qaL HX.out.b3; omega
     have hs0 : W0.heap.size = lb + 3 := by rw [← hW0, ← hlb]; simp
     have hB0 : Below wr.heap.size wr W0 := by rw [← hW0]; exact qac (qac (qac (Below.refl _ _) _) _) _
     have hX0 := HX.out.keep hB0
     have hlo0 : W0.heap[lb]? = some (.cells #[.func (.func 68) #[] #[]] 104 (0, 0)) := by
      rw [← hW0, ← hlb]; exact (Below.heap_alloc _ _ _ (by simp; omega)).trans ((Below.heap_alloc _ _ _ (by simp)).trans (World.alloc_heap_new wr _))
     have hhi0 : W0.heap[lb + 1]? = some (.cells #[.func (.func 69) #[] #[]] 104 (0, 0)) := by
      rw [← hW0, ← hlb]; refine (Below.heap_alloc _ _ _ (by simp)).trans ?_; have := World.alloc_heap_new (wr.alloc (.cells #[.func (.func 68) #[] #[]] 104)) (.cells #[.func (.func 69) #[] #[]] 104); rwa [World.size_alloc] at this
     have hob0 : W0.heap[lb + 2]? = some (.cells #[.slice none 0 0] 32 (0, 0)) := by
      rw [← hW0, ← hlb]; have := World.alloc_heap_new ((wr.alloc (.cells #[.func (.func 68) #[] #[]] 104)).alloc (.cells #[.func (.func 69) #[] #[]] 104)) (.cells #[.slice none 0 0] 32); rwa [World.size_alloc, World.size_alloc] at this
     rw [hW0, show wr.heap.size + 1 + 1 = lb + 2 by omega, show wr.heap.size + 1 = lb + 1 by omega, hlb]; have HI0 := qaa.mk (show ShI w k l0 l1 A0 c0 A1 c1 lb (lb + 1) (lb + 2) (lb + 3) [] W0 from ⟨⟨_, [], rfl, hob0, Kd.R_nil _ _ _ _ _, by simp⟩, hX0, hlo0, hhi0, by omega⟩); have hcz2 : W0.cell? ⟨w.heap.size, 0, none⟩ = some (.slice A0 l0.length c0) := (qaf hX0.b2 0).trans rfl; clear hX0 hlo0 hhi0 hob0 hB0 HX hW0
     gi_wp2_with (refine ⟨trivial, (callsIn_wide.2 (qqG _ _)).mono ?_⟩; rintro e w' ⟨rfl, rfl⟩)
     obtain ⟨hR1, hR3⟩ := (by simpa using HLEN.out)
     have hrb : (W0.alloc (.cells #[.int .i64 (l0.length : Int)] 3)).heap[lb + 3]? = some (.cells #[.int .i64 (l0.length : Int)] 3 (0, 0)) := by
      rw [← hs0]; exact World.alloc_heap_new W0 _
     have hs1 : (W0.alloc (.cells #[.int .i64 (l0.length : Int)] 3)).heap.size = lb + 4 := by simp; omega
     refine qnS (p := 49) (q := 12) (gf := 95) (lb := #[.pointer (some ⟨lb + 3, 0, none⟩)]) (B := lb + 3) (xs := qf5 (l0.length - 1) 100 []) rfl (enters_of Try.func95 (by kernel_rfl) rfl)
      (qm5 _ l0.length (lb + 3) (lb + 3) _ hR1 hR3 (Nat.le_refl _) hrb) (Below.refl _ _) (ShI w k l0 l1 A0 c0 A1 c1 lb (lb + 1) (lb + 2) (lb + 3)) ?hI ?hI0 ?h0 ?assign ?body ?done
     case hI => exact fun pre W1 W2 row h hg hr => h.step hg (fun r e => ⟨by have := (hr r e).1; omega, (hr r e).2⟩)
     case hI0 =>
      intro W1 W2 row h hg hr; obtain ⟨v, out, h1, h2, h3, h4⟩ := h.ex; obtain rfl : [] = out := Option.some.inj h1; obtain rfl := h4.2 rfl
      have kp : ∀ g o, g < lb + 4 → W1.heap[g]? = some o → W2.heap[g]? = some o := fun g o hg2 ho => (hg.block g (Array.getElem?_eq_some_iff.1 ho).1 (fun e => by have := hr g e.symm; omega)).trans ho
      exact ⟨⟨_, [], rfl, kp _ _ (by omega) h2, Kd.R_nil _ _ _ _ _, by simp⟩, ⟨kp _ _ (by omega) h.bx.b2, kp _ _ (by omega) h.bx.b3, h.bx.below.grown hg h.bx.below.size (fun r e => by have := hr r e; omega)⟩, kp _ _ (by omega) h.lo, kp _ _ (by omega) h.hi, Nat.le_trans h.sz hg.size⟩
     case h0 => exact HI0.out.step (World.grownBy_alloc _ _ none) (fun r e => by cases e)
     case assign =>
      intro l v W K hK
      gi_wp2
      exact hK
     case body =>
      intro l pre v x W hI hpre hrow
      have hlen : ∀ y ∈ pre ++ [x], y.length = l0.length := fun y hy => by
       have := qmZ _ _ _ _ (hpre.subset hy)
       simp at this
       omega
      have hxl : x.length = l0.length := hlen x (by simp); obtain ⟨Ax, cx, rfl, hcx, hCx⟩ := Kd.R_reads hrow; obtain ⟨vo, out, h1, h2, h3, h4⟩ := hI.ex; have hout : out = [] ∨ out.length = l0.length := qov pre [] out (fun y hy => hlen y (by simp [hy])) (.inl rfl) h1
      obtain ⟨bb, hag, hst⟩ : ∃ bb, qay.ag k l0 l1 x l1.length 0 = some bb ∧ qay.all k l0 l1 (pre ++ [x]) [] = some (if bb then qay.wide (if out = [] then x.map (fun n => ⟨n, n⟩) else out) x else out) := by
       obtain ⟨ys, hys⟩ := hpre; have hF := HF.out; rw [← hys, qh3, qh3, h1] at hF
       cases hs : qay.st k l0 l1 out x with
       | none => simp [qay.all, hs] at hF
       | some o =>
        obtain ⟨bb, hb1, hb2⟩ := Option.map_eq_some_iff.1 hs; refine ⟨bb, hb1, ?_⟩; rw [qh3, h1]; simp only [Option.bind_some, qay.all, hs, ← hb2]
      have HI := qaa.mk hI; have HAG := qaa.mk hag; have HST := qaa.mk hst; have HOUT := qaa.mk hout; have HROW := qaa.mk hrow; have HCX := qaa.mk hCx; have HN := qaa.mk h4; have HR3 := qaa.mk h3; have HBO := qaa.mk h2; have HALL := qaa.mk h1
      have hmxx : x.length ≤ 3 := by omega
      have HXL := qaa.mk hxl; clear hI hag hst hout hrow hCx h4 h3 h2 h1 HF hpre hlen hxl; simp only [List.setIfInBounds_toArray, List.set_cons_succ, List.set_cons_zero]; have hcz3 : W.cell? ⟨w.heap.size + 1, 0, none⟩ = some (.slice A1 l1.length c1) := (qaf HI.out.bx.b3 0).trans rfl; have hmx1 : l1.length ≤ 9223372036854775807 := HR1.out.2.1
      gi_wp2
      gi_loopg [52] l1.length (fun d v52 wr => ∃ (i : Nat), v52 = .int .i64 (i : Int) ∧ qaa (i + d = l1.length) ∧ qaa (qay.ag k l0 l1 x d (i : Int) = some bb) ∧ qaa (Below W.heap.size W wr))
      case atStart => exact ⟨0, rfl, ⟨by omega⟩, HAG, ⟨Below.refl _ _⟩⟩
      case round =>
       obtain ⟨i, rfl, HD, HA, HB⟩ := hrel
       by_cases hi : i < l1.length
       ·
        obtain ⟨d, rfl⟩ : ∃ d, gk = d + 1 := ⟨gk - 1, by have := HD.out; omega⟩; obtain ⟨ad, ea, hx0, hx1⟩ := qhg HR1.out (i : Int) (by omega) (by omega); subst ea; replace hx0 := (HI.out.bx.below.cell (World.block_lt_of_cell? w _ hx0)).trans hx0; replace hx1 := (HI.out.bx.below.cell (World.block_lt_of_cell? w _ hx1)).trans hx1; replace hx0 := (HB.out.cell (World.block_lt_of_cell? W _ hx0)).trans hx0; replace hx1 := (HB.out.cell (World.block_lt_of_cell? W _ hx1)).trans hx1; rw [Int.toNat_natCast] at hx0 hx1; have hu25 := Try.underlying25
        gi_wp2
        have hww : w.heap.size ≤ W.heap.size := HI.out.bx.below.size; have hlbW : lb + 3 ≤ W.heap.size := HI.out.sz; have hWr : W.heap.size ≤ wr.heap.size := HB.out.size; obtain ⟨We, hWe⟩ : ∃ We, wr.alloc (.cells #[.int .i64 (qbE l1 (i : Int)).f0, .int .i64 (qbE l1 (i : Int)).f1] 25) = We := ⟨_, rfl⟩
        have hbe : Below wr.heap.size wr We := by rw [← hWe]; exact qac (Below.refl _ _) _
        have h14 : We.heap[wr.heap.size]? = some (.cells #[.int .i64 (qbE l1 (i : Int)).f0, .int .i64 (qbE l1 (i : Int)).f1] 25 (0, 0)) := by rw [← hWe]; exact World.alloc_heap_new wr _
        have hse : We.heap.size = wr.heap.size + 1 := by rw [← hWe]; simp
        have HBe := qaa.mk (show Below W.heap.size W We from HB.out.trans (hbe.mono hWr))
        have hSb : ∀ z : World, Below We.heap.size We z → (fun z => z.cell? ⟨lb, 0, none⟩ = some (.func (.func 68) #[] #[]) ∧ z.cell? ⟨lb + 1, 0, none⟩ = some (.func (.func 69) #[] #[]) ∧ z.cell? ⟨w.heap.size, 0, none⟩ = some (.slice A0 l0.length c0) ∧ z.cell? ⟨wr.heap.size, 0, none⟩ = some (.int .i64 (qbE l1 (i : Int)).f0) ∧ z.cell? ⟨wr.heap.size, 1, none⟩ = some (.int .i64 (qbE l1 (i : Int)).f1)) z := fun z hz => by
         have hbz : Below W.heap.size W z := HBe.out.trans (hz.mono (by omega))
         exact ⟨(qaf (qam HI.out.lo hbz) 0).trans rfl, (qaf (qam HI.out.hi hbz) 0).trans rfl, (qaf (qam HI.out.bx.b2 hbz) 0).trans rfl, (qaf (qam h14 hz) 0).trans rfl, (qaf (qam h14 hz) 1).trans rfl⟩
        have hS : (fun z => z.cell? ⟨lb, 0, none⟩ = some (.func (.func 68) #[] #[]) ∧ z.cell? ⟨lb + 1, 0, none⟩ = some (.func (.func 69) #[] #[]) ∧ z.cell? ⟨w.heap.size, 0, none⟩ = some (.slice A0 l0.length c0) ∧ z.cell? ⟨wr.heap.size, 0, none⟩ = some (.int .i64 (qbE l1 (i : Int)).f0) ∧ z.cell? ⟨wr.heap.size, 1, none⟩ = some (.int .i64 (qbE l1 (i : Int)).f1)) We.drew := hSb We.drew (qbx (Below.refl _ _)); rw [hWe]; clear hx0 hx1 hcz3
        obtain ⟨lo, hlo1, hlo2⟩ := Option.bind_eq_some_iff.1 (show (qa1.f k 0 x l0 (i : Int)).bind (fun lo => if wrap64 (100 * (qbE l1 (i : Int)).f1) < lo then some false else
   (qaX.f k 0 x l0 (i : Int)).bind fun hi => if hi < wrap64 (100 * (qbE l1 (i : Int)).f0) then some false else qay.ag k l0 l1 x d ((i : Int) + 1)) = some bb from HA.out)
        have HLO := qaa.mk hlo1; clear hlo1 HA; obtain ⟨qh, hqh⟩ : ∃ q, IntKind.i64.wrap (100 * (qbE l1 (i : Int)).f1) = q := ⟨_, rfl⟩; obtain ⟨ql, hql⟩ : ∃ q, IntKind.i64.wrap (100 * (qbE l1 (i : Int)).f0) = q := ⟨_, rfl⟩; rw [← qaQ, ← qaQ, hqh, hql] at hlo2
        by_cases cc : qh < lo
        ·
         obtain rfl : false = bb := by rw [if_pos cc] at hlo2; exact Option.some.inj hlo2
         clear hlo2; have ccb : decide (qh < lo) = true := decide_eq_true cc; clear cc; refine qhj hmix ?hno1 (by kernel_rfl) ?_
         case hno1 => rintro ⟨a, w, h⟩; exact h
         refine wpAny_of_held (S := (fun z => z.cell? ⟨lb, 0, none⟩ = some (.func (.func 68) #[] #[]) ∧ z.cell? ⟨lb + 1, 0, none⟩ = some (.func (.func 69) #[] #[]) ∧ z.cell? ⟨w.heap.size, 0, none⟩ = some (.slice A0 l0.length c0) ∧ z.cell? ⟨wr.heap.size, 0, none⟩ = some (.int .i64 (qbE l1 (i : Int)).f0) ∧ z.cell? ⟨wr.heap.size, 1, none⟩ = some (.int .i64 (qbE l1 (i : Int)).f1))) _ _ _ _ ?_; change wpAnyH _ _ _ _ _ _ _ _ (World.drew _); refine wpAnyH_take (i := 0) (oi := { dst := some 57, op := _, type := _, pos := _, after := _, guard := _ }) (v := ?vx2) rfl (by kernel_rfl) (by kernel_rfl) (by kernel_rfl) (fun _ _ _ h => h) (Or.inl ⟨by rfl, ?hyx2⟩) hS ?restx2
         case hyx2 =>
          intro z hz; obtain ⟨z1, z2, z3, z4, z5⟩ := hz
          go_simp
          try (with_reducible rfl)
         simp only [Act.put, List.setIfInBounds_toArray, List.set_cons_zero, List.set_cons_succ]; refine wpAnyH_take (i := 1) (oi := { dst := some 58, op := _, type := _, pos := _, after := _, guard := _ }) (v := ?vx3) rfl (by kernel_rfl) (by kernel_rfl) (by kernel_rfl) (fun _ _ _ h => h) (Or.inl ⟨by rfl, ?hyx3⟩) hS ?restx3
         case hyx3 =>
          intro z hz; obtain ⟨z1, z2, z3, z4, z5⟩ := hz
          go_simp
          try (with_reducible rfl)
         simp only [Act.put, List.setIfInBounds_toArray, List.set_cons_zero, List.set_cons_succ]; refine wpAnyH_take (i := 2) (oi := { dst := some 59, op := _, type := _, pos := _, after := _, guard := _ }) (v := ?vx4) rfl (by kernel_rfl) (by kernel_rfl) (by kernel_rfl) (fun _ _ _ h => h) (Or.inl ⟨by rfl, ?hyx4⟩) hS ?restx4
         case hyx4 =>
          intro z hz; obtain ⟨z1, z2, z3, z4, z5⟩ := hz
          go_simp
          try (with_reducible rfl)
         simp only [Act.put, List.setIfInBounds_toArray, List.set_cons_zero, List.set_cons_succ]; refine wpAnyH_take (i := 3) (oi := { dst := some 60, op := _, type := _, pos := _, after := _, guard := _ }) (v := ?vx5) rfl (by kernel_rfl) (by kernel_rfl) (by kernel_rfl) (fun _ _ _ h => h) (Or.inl ⟨by rfl, ?hyx5⟩) hS ?restx5
         case hyx5 =>
          intro z hz; obtain ⟨z1, z2, z3, z4, z5⟩ := hz
          go_simp
          try (with_reducible rfl)
         simp only [Act.put, List.setIfInBounds_toArray, List.set_cons_zero, List.set_cons_succ]; refine wpAnyH_take (i := 5) (oi := { dst := some 62, op := _, type := _, pos := _, after := _, guard := _ }) (v := ?vx6) rfl (by kernel_rfl) (by kernel_rfl) (by kernel_rfl) (fun _ _ _ h => h) (Or.inl ⟨by rfl, ?hyx6⟩) hS ?restx6
         case hyx6 =>
          intro z hz; obtain ⟨z1, z2, z3, z4, z5⟩ := hz
          go_simp
          try (with_reducible rfl)
         simp only [Act.put, List.setIfInBounds_toArray, List.set_cons_zero, List.set_cons_succ]; refine wpAnyH_take (i := 6) (oi := { dst := some 63, op := _, type := _, pos := _, after := _, guard := _ }) (v := ?vx7) rfl (by kernel_rfl) (by kernel_rfl) (by kernel_rfl) (fun _ _ _ h => h) (Or.inl ⟨by rfl, ?hyx7⟩) hS ?restx7
         case hyx7 =>
          intro z hz; obtain ⟨z1, z2, z3, z4, z5⟩ := hz
          go_simp
          try (with_reducible rfl)
         simp only [Act.put, List.setIfInBounds_toArray, List.set_cons_zero, List.set_cons_succ]; refine wpAnyH_take (i := 7) (oi := { dst := some 64, op := _, type := _, pos := _, after := _, guard := _ }) (v := ?vx8) rfl (by kernel_rfl) (by kernel_rfl) (by kernel_rfl) (fun _ _ _ h => h) (Or.inl ⟨by rfl, ?hyx8⟩) hS ?restx8
         case hyx8 =>
          intro z hz; obtain ⟨z1, z2, z3, z4, z5⟩ := hz
          go_simp
          try (with_reducible rfl)
         simp only [Act.put, List.setIfInBounds_toArray, List.set_cons_zero, List.set_cons_succ]; refine wpAnyH_ready (rs := [4]) (by kernel_rfl) (by simp) ?_; refine AllReadyH.cons (o := { dst := some 61, op := .call { callee := .value (.func 71), args := #[.tmp 57, .tmp 58, .tmp 59, .tmp 60], argTypes := #[104, 37, 31, 3] }, type := 3, pos := _, after := _, guard := none }) rfl (fun K hK => ?_) AllReadyH.nil; refine qh4 Try.func71 (by kernel_rfl) rfl #[.agg #[.func (.func 68) #[] #[]], .slice Ax x.length cx, .slice A0 l0.length c0, .int .i64 (i : Int)] (by rfl) rfl rfl (by (try simp only [List.map_toArray, List.map_cons, List.map_nil]); first | done | rfl) ?_; refine (qa1.calls k 0 Ax cx x A0 c0 l0 (i : Int) lo _ ?q1w18 hcx ?q2w18 HC0.out HLO.out).mono ?_
         case q1w18 => exact Kd.C_below HCX.out (qbx HBe.out)
         case q2w18 => exact Kd.C_below HR0.out (HI.out.bx.below.trans ((qbx HBe.out).mono hww))
         rintro e w1 ⟨rfl, hbw1⟩; refine ⟨_, rfl, ?_⟩; have HBw1 := qaa.mk (show Below W.heap.size W w1 from (qbx HBe.out).trans (hbw1.mono (qbx HBe.out).size)); have hS1 := (show _ from hSb w1 ((show Below We.heap.size We w1 from (qbx (Below.refl We.heap.size We)).trans (hbw1.mono ((qbx (Below.refl We.heap.size We)).size))))); clear hS; refine hK.out _ _ hS1 (fun hS => ?_); simp only [Act.put, List.setIfInBounds_toArray, List.set_cons_zero, List.set_cons_succ]; refine wpAnyH_take (i := 8) (oi := { dst := some 65, op := _, type := _, pos := _, after := _, guard := _ }) (v := ?vx9) rfl (by kernel_rfl) (by kernel_rfl) (by kernel_rfl) (fun _ _ _ h => h) (Or.inl ⟨by rfl, ?hyx9⟩) hS ?restx9
         case hyx9 =>
          intro z hz; obtain ⟨z1, z2, z3, z4, z5⟩ := hz
          go_simp
          try (with_reducible rfl)
         simp only [Act.put, List.setIfInBounds_toArray, List.set_cons_zero, List.set_cons_succ]; refine wpAnyH_take (i := 9) (oi := { dst := some 66, op := _, type := _, pos := _, after := _, guard := _ }) (v := ?vx10) rfl (by kernel_rfl) (by kernel_rfl) (by kernel_rfl) (fun _ _ _ h => h) (Or.inl ⟨by rfl, ?hyx10⟩) hS ?restx10
         case hyx10 =>
          intro z hz; obtain ⟨z1, z2, z3, z4, z5⟩ := hz
          go_simp
          try (with_reducible rfl)
         simp only [Act.put, List.setIfInBounds_toArray, List.set_cons_zero, List.set_cons_succ]; refine wpAnyH_take (i := 10) (oi := { dst := some 67, op := _, type := _, pos := _, after := _, guard := _ }) (v := undef) rfl (by kernel_rfl) (by kernel_rfl) (by kernel_rfl) (fun _ _ _ h => h) (Or.inr ⟨by rfl, rfl⟩) hS ?_; simp only [Act.put, List.setIfInBounds_toArray, List.set_cons_zero, List.set_cons_succ]; refine wpAnyH_take (i := 11) (oi := { dst := some 68, op := _, type := _, pos := _, after := _, guard := _ }) (v := undef) rfl (by kernel_rfl) (by kernel_rfl) (by kernel_rfl) (fun _ _ _ h => h) (Or.inr ⟨by rfl, rfl⟩) hS ?_; simp only [Act.put, List.setIfInBounds_toArray, List.set_cons_zero, List.set_cons_succ]; refine wpAnyH_take (i := 12) (oi := { dst := some 69, op := _, type := _, pos := _, after := _, guard := _ }) (v := undef) rfl (by kernel_rfl) (by kernel_rfl) (by kernel_rfl) (fun _ _ _ h => h) (Or.inr ⟨by rfl, rfl⟩) hS ?_; simp only [Act.put, List.setIfInBounds_toArray, List.set_cons_zero, List.set_cons_succ]; refine wpAnyH_take (i := 13) (oi := { dst := some 70, op := _, type := _, pos := _, after := _, guard := _ }) (v := undef) rfl (by kernel_rfl) (by kernel_rfl) (by kernel_rfl) (fun _ _ _ h => h) (Or.inr ⟨by rfl, rfl⟩) hS ?_; simp only [Act.put, List.setIfInBounds_toArray, List.set_cons_zero, List.set_cons_succ]; refine wpAnyH_take (i := 14) (oi := { dst := some 71, op := _, type := _, pos := _, after := _, guard := _ }) (v := undef) rfl (by kernel_rfl) (by kernel_rfl) (by kernel_rfl) (fun _ _ _ h => h) (Or.inr ⟨by rfl, rfl⟩) hS ?_; simp only [Act.put, List.setIfInBounds_toArray, List.set_cons_zero, List.set_cons_succ]; refine wpAnyH_take (i := 15) (oi := { dst := some 72, op := _, type := _, pos := _, after := _, guard := _ }) (v := undef) rfl (by kernel_rfl) (by kernel_rfl) (by kernel_rfl) (fun _ _ _ h => h) (Or.inr ⟨by rfl, rfl⟩) hS ?_; simp only [Act.put, List.setIfInBounds_toArray, List.set_cons_zero, List.set_cons_succ]; refine wpAnyH_take (i := 16) (oi := { dst := some 73, op := _, type := _, pos := _, after := _, guard := _ }) (v := undef) rfl (by kernel_rfl) (by kernel_rfl) (by kernel_rfl) (fun _ _ _ h => h) (Or.inr ⟨by rfl, rfl⟩) hS ?_; simp only [Act.put, List.setIfInBounds_toArray, List.set_cons_zero, List.set_cons_succ]; refine wpAnyH_take (i := 17) (oi := { dst := some 74, op := _, type := _, pos := _, after := _, guard := _ }) (v := undef) rfl (by kernel_rfl) (by kernel_rfl) (by kernel_rfl) (fun _ _ _ h => h) (Or.inr ⟨by rfl, rfl⟩) hS ?_; simp only [Act.put, List.setIfInBounds_toArray, List.set_cons_zero, List.set_cons_succ]; refine wpAnyH_take (i := 18) (oi := { dst := some 75, op := _, type := _, pos := _, after := _, guard := _ }) (v := undef) rfl (by kernel_rfl) (by kernel_rfl) (by kernel_rfl) (fun _ _ _ h => h) (Or.inr ⟨by rfl, rfl⟩) hS ?_; simp only [Act.put, List.setIfInBounds_toArray, List.set_cons_zero, List.set_cons_succ]; refine wpAnyH_take (i := 19) (oi := { dst := some 76, op := _, type := _, pos := _, after := _, guard := _ }) (v := ?vx20) rfl (by kernel_rfl) (by kernel_rfl) (by kernel_rfl) (fun _ _ _ h => h) (Or.inl ⟨by rfl, ?hyx20⟩) hS ?restx20
         case hyx20 =>
          intro z hz; obtain ⟨z1, z2, z3, z4, z5⟩ := hz
          go_simp
          try (with_reducible rfl)
         simp only [Act.put, List.setIfInBounds_toArray, List.set_cons_zero, List.set_cons_succ]; refine wpAnyH_done (by kernel_rfl) ?_ _
         gi_wp2
         exact ⟨(qfP (Bl := lb + 4) (B := lb + 3) HBw1.out).1, (qfP (Bl := lb + 4) (B := lb + 3) HBw1.out).2, HI.out.same HBw1.out (fun o ho => by rw [HST.out, ← ho, HALL.out]; rfl)⟩
        ·
         rw [if_neg cc] at hlo2; have ccb : decide (qh < lo) = false := decide_eq_false cc; clear cc; obtain ⟨hi2, hhi1, hhi2⟩ := Option.bind_eq_some_iff.1 hlo2; have HHI := qaa.mk hhi1; clear hhi1 hlo2
         by_cases dd : hi2 < ql
         ·
          obtain rfl : false = bb := by rw [if_pos dd] at hhi2; exact Option.some.inj hhi2
          clear hhi2; have ddb : decide (hi2 < ql) = true := decide_eq_true dd; clear dd; refine qhj hmix ?hno21 (by kernel_rfl) ?_
          case hno21 => rintro ⟨a, w, h⟩; exact h
          refine wpAny_of_held (S := (fun z => z.cell? ⟨lb, 0, none⟩ = some (.func (.func 68) #[] #[]) ∧ z.cell? ⟨lb + 1, 0, none⟩ = some (.func (.func 69) #[] #[]) ∧ z.cell? ⟨w.heap.size, 0, none⟩ = some (.slice A0 l0.length c0) ∧ z.cell? ⟨wr.heap.size, 0, none⟩ = some (.int .i64 (qbE l1 (i : Int)).f0) ∧ z.cell? ⟨wr.heap.size, 1, none⟩ = some (.int .i64 (qbE l1 (i : Int)).f1))) _ _ _ _ ?_; change wpAnyH _ _ _ _ _ _ _ _ (World.drew _); refine wpAnyH_take (i := 0) (oi := { dst := some 57, op := _, type := _, pos := _, after := _, guard := _ }) (v := ?vx22) rfl (by kernel_rfl) (by kernel_rfl) (by kernel_rfl) (fun _ _ _ h => h) (Or.inl ⟨by rfl, ?hyx22⟩) hS ?restx22
          case hyx22 =>
           intro z hz; obtain ⟨z1, z2, z3, z4, z5⟩ := hz
           go_simp
           try (with_reducible rfl)
          simp only [Act.put, List.setIfInBounds_toArray, List.set_cons_zero, List.set_cons_succ]; refine wpAnyH_take (i := 1) (oi := { dst := some 58, op := _, type := _, pos := _, after := _, guard := _ }) (v := ?vx23) rfl (by kernel_rfl) (by kernel_rfl) (by kernel_rfl) (fun _ _ _ h => h) (Or.inl ⟨by rfl, ?hyx23⟩) hS ?restx23
          case hyx23 =>
           intro z hz; obtain ⟨z1, z2, z3, z4, z5⟩ := hz
           go_simp
           try (with_reducible rfl)
          simp only [Act.put, List.setIfInBounds_toArray, List.set_cons_zero, List.set_cons_succ]; refine wpAnyH_take (i := 2) (oi := { dst := some 59, op := _, type := _, pos := _, after := _, guard := _ }) (v := ?vx24) rfl (by kernel_rfl) (by kernel_rfl) (by kernel_rfl) (fun _ _ _ h => h) (Or.inl ⟨by rfl, ?hyx24⟩) hS ?restx24
          case hyx24 =>
           intro z hz; obtain ⟨z1, z2, z3, z4, z5⟩ := hz
           go_simp
           try (with_reducible rfl)
          simp only [Act.put, List.setIfInBounds_toArray, List.set_cons_zero, List.set_cons_succ]; refine wpAnyH_take (i := 3) (oi := { dst := some 60, op := _, type := _, pos := _, after := _, guard := _ }) (v := ?vx25) rfl (by kernel_rfl) (by kernel_rfl) (by kernel_rfl) (fun _ _ _ h => h) (Or.inl ⟨by rfl, ?hyx25⟩) hS ?restx25
          case hyx25 =>
           intro z hz; obtain ⟨z1, z2, z3, z4, z5⟩ := hz
           go_simp
           try (with_reducible rfl)
          simp only [Act.put, List.setIfInBounds_toArray, List.set_cons_zero, List.set_cons_succ]; refine wpAnyH_take (i := 5) (oi := { dst := some 62, op := _, type := _, pos := _, after := _, guard := _ }) (v := ?vx26) rfl (by kernel_rfl) (by kernel_rfl) (by kernel_rfl) (fun _ _ _ h => h) (Or.inl ⟨by rfl, ?hyx26⟩) hS ?restx26
          case hyx26 =>
           intro z hz; obtain ⟨z1, z2, z3, z4, z5⟩ := hz
           go_simp
           try (with_reducible rfl)
          simp only [Act.put, List.setIfInBounds_toArray, List.set_cons_zero, List.set_cons_succ]; refine wpAnyH_take (i := 6) (oi := { dst := some 63, op := _, type := _, pos := _, after := _, guard := _ }) (v := ?vx27) rfl (by kernel_rfl) (by kernel_rfl) (by kernel_rfl) (fun _ _ _ h => h) (Or.inl ⟨by rfl, ?hyx27⟩) hS ?restx27
          case hyx27 =>
           intro z hz; obtain ⟨z1, z2, z3, z4, z5⟩ := hz
           go_simp
           try (with_reducible rfl)
          simp only [Act.put, List.setIfInBounds_toArray, List.set_cons_zero, List.set_cons_succ]; refine wpAnyH_take (i := 7) (oi := { dst := some 64, op := _, type := _, pos := _, after := _, guard := _ }) (v := ?vx28) rfl (by kernel_rfl) (by kernel_rfl) (by kernel_rfl) (fun _ _ _ h => h) (Or.inl ⟨by rfl, ?hyx28⟩) hS ?restx28
          case hyx28 =>
           intro z hz; obtain ⟨z1, z2, z3, z4, z5⟩ := hz
           go_simp
           try (with_reducible rfl)
          simp only [Act.put, List.setIfInBounds_toArray, List.set_cons_zero, List.set_cons_succ]; refine wpAnyH_ready (rs := [4]) (by kernel_rfl) (by simp) ?_; refine AllReadyH.cons (o := { dst := some 61, op := .call { callee := .value (.func 71), args := #[.tmp 57, .tmp 58, .tmp 59, .tmp 60], argTypes := #[104, 37, 31, 3] }, type := 3, pos := _, after := _, guard := none }) rfl (fun K hK => ?_) AllReadyH.nil; refine qh4 Try.func71 (by kernel_rfl) rfl #[.agg #[.func (.func 68) #[] #[]], .slice Ax x.length cx, .slice A0 l0.length c0, .int .i64 (i : Int)] (by rfl) rfl rfl (by (try simp only [List.map_toArray, List.map_cons, List.map_nil]); first | done | rfl) ?_; refine (qa1.calls k 0 Ax cx x A0 c0 l0 (i : Int) lo _ ?q1w128 hcx ?q2w128 HC0.out HLO.out).mono ?_
          case q1w128 => exact Kd.C_below HCX.out (qbx HBe.out)
          case q2w128 => exact Kd.C_below HR0.out (HI.out.bx.below.trans ((qbx HBe.out).mono hww))
          rintro e w1 ⟨rfl, hbw1⟩; refine ⟨_, rfl, ?_⟩; have HBw1 := qaa.mk (show Below W.heap.size W w1 from (qbx HBe.out).trans (hbw1.mono (qbx HBe.out).size)); have hS1 := (show _ from hSb w1 ((show Below We.heap.size We w1 from (qbx (Below.refl We.heap.size We)).trans (hbw1.mono ((qbx (Below.refl We.heap.size We)).size))))); clear hS; refine hK.out _ _ hS1 (fun hS => ?_); simp only [Act.put, List.setIfInBounds_toArray, List.set_cons_zero, List.set_cons_succ]; refine wpAnyH_take (i := 8) (oi := { dst := some 65, op := _, type := _, pos := _, after := _, guard := _ }) (v := ?vx29) rfl (by kernel_rfl) (by kernel_rfl) (by kernel_rfl) (fun _ _ _ h => h) (Or.inl ⟨by rfl, ?hyx29⟩) hS ?restx29
          case hyx29 =>
           intro z hz; obtain ⟨z1, z2, z3, z4, z5⟩ := hz
           go_simp
           try (with_reducible rfl)
          simp only [Act.put, List.setIfInBounds_toArray, List.set_cons_zero, List.set_cons_succ]; refine wpAnyH_take (i := 9) (oi := { dst := some 66, op := _, type := _, pos := _, after := _, guard := _ }) (v := ?vx30) rfl (by kernel_rfl) (by kernel_rfl) (by kernel_rfl) (fun _ _ _ h => h) (Or.inl ⟨by rfl, ?hyx30⟩) hS ?restx30
          case hyx30 =>
           intro z hz; obtain ⟨z1, z2, z3, z4, z5⟩ := hz
           go_simp
           try (with_reducible rfl)
          simp only [Act.put, List.setIfInBounds_toArray, List.set_cons_zero, List.set_cons_succ]; refine wpAnyH_take (i := 10) (oi := { dst := some 67, op := _, type := _, pos := _, after := _, guard := _ }) (v := ?vx31) rfl (by kernel_rfl) (by kernel_rfl) (by kernel_rfl) (fun _ _ _ h => h) (Or.inl ⟨by rfl, ?hyx31⟩) hS ?restx31
          case hyx31 =>
           intro z hz; obtain ⟨z1, z2, z3, z4, z5⟩ := hz
           go_simp
           try (with_reducible rfl)
          simp only [Act.put, List.setIfInBounds_toArray, List.set_cons_zero, List.set_cons_succ]; refine wpAnyH_take (i := 11) (oi := { dst := some 68, op := _, type := _, pos := _, after := _, guard := _ }) (v := ?vx32) rfl (by kernel_rfl) (by kernel_rfl) (by kernel_rfl) (fun _ _ _ h => h) (Or.inl ⟨by rfl, ?hyx32⟩) hS ?restx32
          case hyx32 =>
           intro z hz; obtain ⟨z1, z2, z3, z4, z5⟩ := hz
           go_simp
           try (with_reducible rfl)
          simp only [Act.put, List.setIfInBounds_toArray, List.set_cons_zero, List.set_cons_succ]; refine wpAnyH_take (i := 12) (oi := { dst := some 69, op := _, type := _, pos := _, after := _, guard := _ }) (v := ?vx33) rfl (by kernel_rfl) (by kernel_rfl) (by kernel_rfl) (fun _ _ _ h => h) (Or.inl ⟨by rfl, ?hyx33⟩) hS ?restx33
          case hyx33 =>
           intro z hz; obtain ⟨z1, z2, z3, z4, z5⟩ := hz
           go_simp
           try (with_reducible rfl)
          simp only [Act.put, List.setIfInBounds_toArray, List.set_cons_zero, List.set_cons_succ]; refine wpAnyH_take (i := 13) (oi := { dst := some 70, op := _, type := _, pos := _, after := _, guard := _ }) (v := ?vx34) rfl (by kernel_rfl) (by kernel_rfl) (by kernel_rfl) (fun _ _ _ h => h) (Or.inl ⟨by rfl, ?hyx34⟩) hS ?restx34
          case hyx34 =>
           intro z hz; obtain ⟨z1, z2, z3, z4, z5⟩ := hz
           go_simp
           try (with_reducible rfl)
          simp only [Act.put, List.setIfInBounds_toArray, List.set_cons_zero, List.set_cons_succ]; refine wpAnyH_take (i := 15) (oi := { dst := some 72, op := _, type := _, pos := _, after := _, guard := _ }) (v := ?vx35) rfl (by kernel_rfl) (by kernel_rfl) (by kernel_rfl) (fun _ _ _ h => h) (Or.inl ⟨by rfl, ?hyx35⟩) hS ?restx35
          case hyx35 =>
           intro z hz; obtain ⟨z1, z2, z3, z4, z5⟩ := hz
           go_simp
           try (with_reducible rfl)
          simp only [Act.put, List.setIfInBounds_toArray, List.set_cons_zero, List.set_cons_succ]; refine wpAnyH_take (i := 16) (oi := { dst := some 73, op := _, type := _, pos := _, after := _, guard := _ }) (v := ?vx36) rfl (by kernel_rfl) (by kernel_rfl) (by kernel_rfl) (fun _ _ _ h => h) (Or.inl ⟨by rfl, ?hyx36⟩) hS ?restx36
          case hyx36 =>
           intro z hz; obtain ⟨z1, z2, z3, z4, z5⟩ := hz
           go_simp
           try (with_reducible rfl)
          simp only [Act.put, List.setIfInBounds_toArray, List.set_cons_zero, List.set_cons_succ]; refine wpAnyH_take (i := 17) (oi := { dst := some 74, op := _, type := _, pos := _, after := _, guard := _ }) (v := ?vx37) rfl (by kernel_rfl) (by kernel_rfl) (by kernel_rfl) (fun _ _ _ h => h) (Or.inl ⟨by rfl, ?hyx37⟩) hS ?restx37
          case hyx37 =>
           intro z hz; obtain ⟨z1, z2, z3, z4, z5⟩ := hz
           go_simp
           try (with_reducible rfl)
          simp only [Act.put, List.setIfInBounds_toArray, List.set_cons_zero, List.set_cons_succ]; have hbX := (qbx (Below.refl We.heap.size We)).trans (hbw1.mono (Nat.le_refl We.heap.size)); refine wpAnyH_ready (rs := [14]) (by kernel_rfl) (by simp) ?_; refine AllReadyH.cons (o := { dst := some 71, op := .call { callee := .value (.func 71), args := #[.tmp 67, .tmp 68, .tmp 69, .tmp 70], argTypes := #[104, 37, 31, 3] }, type := 3, pos := _, after := _, guard := some (9, false) }) rfl (fun K hK => ?_) AllReadyH.nil; refine qh4 Try.func71 (by kernel_rfl) rfl #[.agg #[.func (.func 69) #[] #[]], .slice Ax x.length cx, .slice A0 l0.length c0, .int .i64 (i : Int)] (by rfl) rfl rfl (by (try simp only [List.map_toArray, List.map_cons, List.map_nil]); first | done | rfl) ?_; refine (qaX.calls k 0 Ax cx x A0 c0 l0 (i : Int) hi2 _ ?q1w237 hcx ?q2w237 HC0.out HHI.out).mono ?_
          case q1w237 => exact Kd.C_below HCX.out HBw1.out
          case q2w237 => exact Kd.C_below HR0.out (HI.out.bx.below.trans (HBw1.out.mono hww))
          rintro e w2 ⟨rfl, hbw2⟩; refine ⟨_, rfl, ?_⟩; have HBw2 := qaa.mk (show Below W.heap.size W w2 from HBw1.out.trans (hbw2.mono HBw1.out.size)); have hS1 := (show _ from hSb w2 ((show Below We.heap.size We w2 from hbX.trans (hbw2.mono (hbX.size))))); clear hS; refine hK.out _ _ hS1 (fun hS => ?_); simp only [Act.put, List.setIfInBounds_toArray, List.set_cons_zero, List.set_cons_succ]; refine wpAnyH_take (i := 18) (oi := { dst := some 75, op := _, type := _, pos := _, after := _, guard := _ }) (v := ?vx38) rfl (by kernel_rfl) (by kernel_rfl) (by kernel_rfl) (fun _ _ _ h => h) (Or.inl ⟨by rfl, ?hyx38⟩) hS ?restx38
          case hyx38 =>
           intro z hz; obtain ⟨z1, z2, z3, z4, z5⟩ := hz
           go_simp
           try (with_reducible rfl)
          simp only [Act.put, List.setIfInBounds_toArray, List.set_cons_zero, List.set_cons_succ]; refine wpAnyH_take (i := 19) (oi := { dst := some 76, op := _, type := _, pos := _, after := _, guard := _ }) (v := ?vx39) rfl (by kernel_rfl) (by kernel_rfl) (by kernel_rfl) (fun _ _ _ h => h) (Or.inl ⟨by rfl, ?hyx39⟩) hS ?restx39
          case hyx39 =>
           intro z hz; obtain ⟨z1, z2, z3, z4, z5⟩ := hz
           go_simp
           try (with_reducible rfl)
          simp only [Act.put, List.setIfInBounds_toArray, List.set_cons_zero, List.set_cons_succ]; refine wpAnyH_done (by kernel_rfl) ?_ _
          gi_wp2
          exact ⟨(qfP (Bl := lb + 4) (B := lb + 3) HBw2.out).1, (qfP (Bl := lb + 4) (B := lb + 3) HBw2.out).2, HI.out.same HBw2.out (fun o ho => by rw [HST.out, ← ho, HALL.out]; rfl)⟩
         ·
          rw [if_neg dd] at hhi2; have HA2 := qaa.mk hhi2; have ddb : decide (hi2 < ql) = false := decide_eq_false dd; clear dd hhi2; refine qhj hmix ?hno40 (by kernel_rfl) ?_
          case hno40 => rintro ⟨a, w, h⟩; exact h
          refine wpAny_of_held (S := (fun z => z.cell? ⟨lb, 0, none⟩ = some (.func (.func 68) #[] #[]) ∧ z.cell? ⟨lb + 1, 0, none⟩ = some (.func (.func 69) #[] #[]) ∧ z.cell? ⟨w.heap.size, 0, none⟩ = some (.slice A0 l0.length c0) ∧ z.cell? ⟨wr.heap.size, 0, none⟩ = some (.int .i64 (qbE l1 (i : Int)).f0) ∧ z.cell? ⟨wr.heap.size, 1, none⟩ = some (.int .i64 (qbE l1 (i : Int)).f1))) _ _ _ _ ?_; change wpAnyH _ _ _ _ _ _ _ _ (World.drew _); refine wpAnyH_take (i := 0) (oi := { dst := some 57, op := _, type := _, pos := _, after := _, guard := _ }) (v := ?vx41) rfl (by kernel_rfl) (by kernel_rfl) (by kernel_rfl) (fun _ _ _ h => h) (Or.inl ⟨by rfl, ?hyx41⟩) hS ?restx41
          case hyx41 =>
           intro z hz; obtain ⟨z1, z2, z3, z4, z5⟩ := hz
           go_simp
           try (with_reducible rfl)
          simp only [Act.put, List.setIfInBounds_toArray, List.set_cons_zero, List.set_cons_succ]; refine wpAnyH_take (i := 1) (oi := { dst := some 58, op := _, type := _, pos := _, after := _, guard := _ }) (v := ?vx42) rfl (by kernel_rfl) (by kernel_rfl) (by kernel_rfl) (fun _ _ _ h => h) (Or.inl ⟨by rfl, ?hyx42⟩) hS ?restx42
          case hyx42 =>
           intro z hz; obtain ⟨z1, z2, z3, z4, z5⟩ := hz
           go_simp
           try (with_reducible rfl)
          simp only [Act.put, List.setIfInBounds_toArray, List.set_cons_zero, List.set_cons_succ]; refine wpAnyH_take (i := 2) (oi := { dst := some 59, op := _, type := _, pos := _, after := _, guard := _ }) (v := ?vx43) rfl (by kernel_rfl) (by kernel_rfl) (by kernel_rfl) (fun _ _ _ h => h) (Or.inl ⟨by rfl, ?hyx43⟩) hS ?restx43
          case hyx43 =>
           intro z hz; obtain ⟨z1, z2, z3, z4, z5⟩ := hz
           go_simp
           try (with_reducible rfl)
          simp only [Act.put, List.setIfInBounds_toArray, List.set_cons_zero, List.set_cons_succ]; refine wpAnyH_take (i := 3) (oi := { dst := some 60, op := _, type := _, pos := _, after := _, guard := _ }) (v := ?vx44) rfl (by kernel_rfl) (by kernel_rfl) (by kernel_rfl) (fun _ _ _ h => h) (Or.inl ⟨by rfl, ?hyx44⟩) hS ?restx44
          case hyx44 =>
           intro z hz; obtain ⟨z1, z2, z3, z4, z5⟩ := hz
           go_simp
           try (with_reducible rfl)
          simp only [Act.put, List.setIfInBounds_toArray, List.set_cons_zero, List.set_cons_succ]; refine wpAnyH_take (i := 5) (oi := { dst := some 62, op := _, type := _, pos := _, after := _, guard := _ }) (v := ?vx45) rfl (by kernel_rfl) (by kernel_rfl) (by kernel_rfl) (fun _ _ _ h => h) (Or.inl ⟨by rfl, ?hyx45⟩) hS ?restx45
          case hyx45 =>
           intro z hz; obtain ⟨z1, z2, z3, z4, z5⟩ := hz
           go_simp
           try (with_reducible rfl)
          simp only [Act.put, List.setIfInBounds_toArray, List.set_cons_zero, List.set_cons_succ]; refine wpAnyH_take (i := 6) (oi := { dst := some 63, op := _, type := _, pos := _, after := _, guard := _ }) (v := ?vx46) rfl (by kernel_rfl) (by kernel_rfl) (by kernel_rfl) (fun _ _ _ h => h) (Or.inl ⟨by rfl, ?hyx46⟩) hS ?restx46
          case hyx46 =>
           intro z hz; obtain ⟨z1, z2, z3, z4, z5⟩ := hz
           go_simp
           try (with_reducible rfl)
          simp only [Act.put, List.setIfInBounds_toArray, List.set_cons_zero, List.set_cons_succ]; refine wpAnyH_take (i := 7) (oi := { dst := some 64, op := _, type := _, pos := _, after := _, guard := _ }) (v := ?vx47) rfl (by kernel_rfl) (by kernel_rfl) (by kernel_rfl) (fun _ _ _ h => h) (Or.inl ⟨by rfl, ?hyx47⟩) hS ?restx47
          case hyx47 =>
           intro z hz; obtain ⟨z1, z2, z3, z4, z5⟩ := hz
           go_simp
           try (with_reducible rfl)
          simp only [Act.put, List.setIfInBounds_toArray, List.set_cons_zero, List.set_cons_succ]; refine wpAnyH_ready (rs := [4]) (by kernel_rfl) (by simp) ?_; refine AllReadyH.cons (o := { dst := some 61, op := .call { callee := .value (.func 71), args := #[.tmp 57, .tmp 58, .tmp 59, .tmp 60], argTypes := #[104, 37, 31, 3] }, type := 3, pos := _, after := _, guard := none }) rfl (fun K hK => ?_) AllReadyH.nil; refine qh4 Try.func71 (by kernel_rfl) rfl #[.agg #[.func (.func 68) #[] #[]], .slice Ax x.length cx, .slice A0 l0.length c0, .int .i64 (i : Int)] (by rfl) rfl rfl (by (try simp only [List.map_toArray, List.map_cons, List.map_nil]); first | done | rfl) ?_; refine (qa1.calls k 0 Ax cx x A0 c0 l0 (i : Int) lo _ ?q1w147 hcx ?q2w147 HC0.out HLO.out).mono ?_
          case q1w147 => exact Kd.C_below HCX.out (qbx HBe.out)
          case q2w147 => exact Kd.C_below HR0.out (HI.out.bx.below.trans ((qbx HBe.out).mono hww))
          rintro e w1 ⟨rfl, hbw1⟩; refine ⟨_, rfl, ?_⟩; have HBw1 := qaa.mk (show Below W.heap.size W w1 from (qbx HBe.out).trans (hbw1.mono (qbx HBe.out).size)); have hS1 := (show _ from hSb w1 ((show Below We.heap.size We w1 from (qbx (Below.refl We.heap.size We)).trans (hbw1.mono ((qbx (Below.refl We.heap.size We)).size))))); clear hS; refine hK.out _ _ hS1 (fun hS => ?_); simp only [Act.put, List.setIfInBounds_toArray, List.set_cons_zero, List.set_cons_succ]; refine wpAnyH_take (i := 8) (oi := { dst := some 65, op := _, type := _, pos := _, after := _, guard := _ }) (v := ?vx48) rfl (by kernel_rfl) (by kernel_rfl) (by kernel_rfl) (fun _ _ _ h => h) (Or.inl ⟨by rfl, ?hyx48⟩) hS ?restx48
          case hyx48 =>
           intro z hz; obtain ⟨z1, z2, z3, z4, z5⟩ := hz
           go_simp
           try (with_reducible rfl)
          simp only [Act.put, List.setIfInBounds_toArray, List.set_cons_zero, List.set_cons_succ]; refine wpAnyH_take (i := 9) (oi := { dst := some 66, op := _, type := _, pos := _, after := _, guard := _ }) (v := ?vx49) rfl (by kernel_rfl) (by kernel_rfl) (by kernel_rfl) (fun _ _ _ h => h) (Or.inl ⟨by rfl, ?hyx49⟩) hS ?restx49
          case hyx49 =>
           intro z hz; obtain ⟨z1, z2, z3, z4, z5⟩ := hz
           go_simp
           try (with_reducible rfl)
          simp only [Act.put, List.setIfInBounds_toArray, List.set_cons_zero, List.set_cons_succ]; refine wpAnyH_take (i := 10) (oi := { dst := some 67, op := _, type := _, pos := _, after := _, guard := _ }) (v := ?vx50) rfl (by kernel_rfl) (by kernel_rfl) (by kernel_rfl) (fun _ _ _ h => h) (Or.inl ⟨by rfl, ?hyx50⟩) hS ?restx50
          case hyx50 =>
           intro z hz; obtain ⟨z1, z2, z3, z4, z5⟩ := hz
           go_simp
           try (with_reducible rfl)
          simp only [Act.put, List.setIfInBounds_toArray, List.set_cons_zero, List.set_cons_succ]; refine wpAnyH_take (i := 11) (oi := { dst := some 68, op := _, type := _, pos := _, after := _, guard := _ }) (v := ?vx51) rfl (by kernel_rfl) (by kernel_rfl) (by kernel_rfl) (fun _ _ _ h => h) (Or.inl ⟨by rfl, ?hyx51⟩) hS ?restx51
          case hyx51 =>
           intro z hz; obtain ⟨z1, z2, z3, z4, z5⟩ := hz
           go_simp
           try (with_reducible rfl)
          simp only [Act.put, List.setIfInBounds_toArray, List.set_cons_zero, List.set_cons_succ]; refine wpAnyH_take (i := 12) (oi := { dst := some 69, op := _, type := _, pos := _, after := _, guard := _ }) (v := ?vx52) rfl (by kernel_rfl) (by kernel_rfl) (by kernel_rfl) (fun _ _ _ h => h) (Or.inl ⟨by rfl, ?hyx52⟩) hS ?restx52
          case hyx52 =>
           intro z hz; obtain ⟨z1, z2, z3, z4, z5⟩ := hz
           go_simp
           try (with_reducible rfl)
          simp only [Act.put, List.setIfInBounds_toArray, List.set_cons_zero, List.set_cons_succ]; refine wpAnyH_take (i := 13) (oi := { dst := some 70, op := _, type := _, pos := _, after := _, guard := _ }) (v := ?vx53) rfl (by kernel_rfl) (by kernel_rfl) (by kernel_rfl) (fun _ _ _ h => h) (Or.inl ⟨by rfl, ?hyx53⟩) hS ?restx53
          case hyx53 =>
           intro z hz; obtain ⟨z1, z2, z3, z4, z5⟩ := hz
           go_simp
           try (with_reducible rfl)
          simp only [Act.put, List.setIfInBounds_toArray, List.set_cons_zero, List.set_cons_succ]; refine wpAnyH_take (i := 15) (oi := { dst := some 72, op := _, type := _, pos := _, after := _, guard := _ }) (v := ?vx54) rfl (by kernel_rfl) (by kernel_rfl) (by kernel_rfl) (fun _ _ _ h => h) (Or.inl ⟨by rfl, ?hyx54⟩) hS ?restx54
          case hyx54 =>
           intro z hz; obtain ⟨z1, z2, z3, z4, z5⟩ := hz
           go_simp
           try (with_reducible rfl)
          simp only [Act.put, List.setIfInBounds_toArray, List.set_cons_zero, List.set_cons_succ]; refine wpAnyH_take (i := 16) (oi := { dst := some 73, op := _, type := _, pos := _, after := _, guard := _ }) (v := ?vx55) rfl (by kernel_rfl) (by kernel_rfl) (by kernel_rfl) (fun _ _ _ h => h) (Or.inl ⟨by rfl, ?hyx55⟩) hS ?restx55
          case hyx55 =>
           intro z hz; obtain ⟨z1, z2, z3, z4, z5⟩ := hz
           go_simp
           try (with_reducible rfl)
          simp only [Act.put, List.setIfInBounds_toArray, List.set_cons_zero, List.set_cons_succ]; refine wpAnyH_take (i := 17) (oi := { dst := some 74, op := _, type := _, pos := _, after := _, guard := _ }) (v := ?vx56) rfl (by kernel_rfl) (by kernel_rfl) (by kernel_rfl) (fun _ _ _ h => h) (Or.inl ⟨by rfl, ?hyx56⟩) hS ?restx56
          case hyx56 =>
           intro z hz; obtain ⟨z1, z2, z3, z4, z5⟩ := hz
           go_simp
           try (with_reducible rfl)
          simp only [Act.put, List.setIfInBounds_toArray, List.set_cons_zero, List.set_cons_succ]; have hbX := (qbx (Below.refl We.heap.size We)).trans (hbw1.mono (Nat.le_refl We.heap.size)); refine wpAnyH_ready (rs := [14]) (by kernel_rfl) (by simp) ?_; refine AllReadyH.cons (o := { dst := some 71, op := .call { callee := .value (.func 71), args := #[.tmp 67, .tmp 68, .tmp 69, .tmp 70], argTypes := #[104, 37, 31, 3] }, type := 3, pos := _, after := _, guard := some (9, false) }) rfl (fun K hK => ?_) AllReadyH.nil; refine qh4 Try.func71 (by kernel_rfl) rfl #[.agg #[.func (.func 69) #[] #[]], .slice Ax x.length cx, .slice A0 l0.length c0, .int .i64 (i : Int)] (by rfl) rfl rfl (by (try simp only [List.map_toArray, List.map_cons, List.map_nil]); first | done | rfl) ?_; refine (qaX.calls k 0 Ax cx x A0 c0 l0 (i : Int) hi2 _ ?q1w256 hcx ?q2w256 HC0.out HHI.out).mono ?_
          case q1w256 => exact Kd.C_below HCX.out HBw1.out
          case q2w256 => exact Kd.C_below HR0.out (HI.out.bx.below.trans (HBw1.out.mono hww))
          rintro e w2 ⟨rfl, hbw2⟩; refine ⟨_, rfl, ?_⟩; have HBw2 := qaa.mk (show Below W.heap.size W w2 from HBw1.out.trans (hbw2.mono HBw1.out.size)); have hS1 := (show _ from hSb w2 ((show Below We.heap.size We w2 from hbX.trans (hbw2.mono (hbX.size))))); clear hS; refine hK.out _ _ hS1 (fun hS => ?_); simp only [Act.put, List.setIfInBounds_toArray, List.set_cons_zero, List.set_cons_succ]; refine wpAnyH_take (i := 18) (oi := { dst := some 75, op := _, type := _, pos := _, after := _, guard := _ }) (v := ?vx57) rfl (by kernel_rfl) (by kernel_rfl) (by kernel_rfl) (fun _ _ _ h => h) (Or.inl ⟨by rfl, ?hyx57⟩) hS ?restx57
          case hyx57 =>
           intro z hz; obtain ⟨z1, z2, z3, z4, z5⟩ := hz
           go_simp
           try (with_reducible rfl)
          simp only [Act.put, List.setIfInBounds_toArray, List.set_cons_zero, List.set_cons_succ]; refine wpAnyH_take (i := 19) (oi := { dst := some 76, op := _, type := _, pos := _, after := _, guard := _ }) (v := ?vx58) rfl (by kernel_rfl) (by kernel_rfl) (by kernel_rfl) (fun _ _ _ h => h) (Or.inl ⟨by rfl, ?hyx58⟩) hS ?restx58
          case hyx58 =>
           intro z hz; obtain ⟨z1, z2, z3, z4, z5⟩ := hz
           go_simp
           try (with_reducible rfl)
          simp only [Act.put, List.setIfInBounds_toArray, List.set_cons_zero, List.set_cons_succ]; refine wpAnyH_done (by kernel_rfl) ?_ _
          gi_wp2
          gi_roundg d
          case measure => omega
          case rel => exact ⟨i + 1, by simp, ⟨by have := HD.out; omega⟩, ⟨HA2.out⟩, HBw2⟩
       ·
        have hgk : gk = 0 := by have := HD.out; omega
        subst hgk; obtain rfl : true = bb := Option.some.inj HA.out; clear HA
        have HO := qaa.mk (show ShO w A0 c0 l0.length A1 c1 l1.length lb (lb + 1) (lb + 2) (lb + 3) Ax x W wr out from
         ⟨(qfP (Bl := lb + 4) (B := lb + 3) HB.out).1, (qfP (Bl := lb + 4) (B := lb + 3) HB.out).2, HI.out.bx.keep HB.out, qam HI.out.lo HB.out, qam HI.out.hi HB.out, ⟨vo, qam HBO.out HB.out, Kd.R_below HR3.out HB.out, HN.out⟩, Kd.C_below HCX.out HB.out, Nat.le_trans HI.out.sz HB.out.size⟩)
        clear HD HB hcz3
        gi_upto_region 18 with (fail)
        gi_cut [79] from 80 (fun v79 wc => v79 = .bool (decide (out = [])) ∧ qaa (ShO w A0 c0 l0.length A1 c1 l1.length lb (lb + 1) (lb + 2) (lb + 3) Ax x W wc out))
        case first =>
         obtain ⟨v2, g1, g2, g3⟩ := HO.out.ex; have hob : wr.cell? ⟨lb + 2, 0, none⟩ = some v2 := (qaf g1 0).trans rfl
         by_cases ho : out = []
         ·
          rw [g3.2 ho] at hob; have hvn := Lib.run_eql_slice_nil (P := Try.prog) wr 32 25 none 0 0 0 0 Try.underlying32; clear g1 g2 g3
          gi_wp2
          gi_meet
          case rel => exact ⟨by rw [decide_eq_true ho], HO⟩
         ·
          obtain ⟨go, co, eo, _, _, _⟩ := Kd.R_form g2 (List.length_pos_iff.2 ho); rw [eo] at hob; have hvn := Lib.run_eql_slice_nil (P := Try.prog) wr 32 25 (some ⟨go, 0, none⟩) out.length co 0 0 Try.underlying32; clear g1 g2 g3 eo
          gi_wp2
          gi_meet
          case rel => exact ⟨by rw [decide_eq_false ho], HO⟩
        case rest =>
         clear HO; obtain ⟨rfl, HO⟩ := hcut
         gi_upto_if 79 with (fail)
         gi_cut [] from 79 (fun wc => qaa (ShO w A0 c0 l0.length A1 c1 l1.length lb (lb + 1) (lb + 2) (lb + 3) Ax x W wc (if out = [] then x.map (fun n => ⟨n, n⟩) else out)))
         case first =>
          by_cases ho : out = []
          ·
           have hod : decide (out = []) = true := decide_eq_true ho; subst ho
           gi_wp2
           gi_loopg [82] x.length (fun d v82 wr => ∃ (i : Nat), v82 = .int .i64 (i : Int) ∧ qaa (i + d = x.length) ∧ qaa (ShO w A0 c0 l0.length A1 c1 l1.length lb (lb + 1) (lb + 2) (lb + 3) Ax x W wr ((x.take i).map (fun n => ⟨n, n⟩))))
           case atStart => exact ⟨0, rfl, ⟨by omega⟩, ⟨by simpa using HO.out⟩⟩
           case round =>
            obtain ⟨j, rfl, HJ, HO2⟩ := hrel
            by_cases hj : j < x.length
            ·
             obtain ⟨d, rfl⟩ : ∃ d, gk = d + 1 := ⟨gk - 1, by have := HJ.out; omega⟩; obtain ⟨ad, ea, hx0⟩ := Kd.at_int HO2.out.cx (j : Int) (by omega) (by omega); subst ea; rw [Int.toNat_natCast] at hx0; obtain ⟨v2, g1, g2, g3⟩ := HO2.out.ex; have hob : wr.cell? ⟨lb + 2, 0, none⟩ = some v2 := (qaf g1 0).trans rfl; have hof := qaj g1 0; have HG1 := qaa.mk g1; have HG2 := qaa.mk g2; have HG3 := qaa.mk g3; clear g1 g2 g3; have hu25 := Try.underlying25
             gi_upto_region 22 with (fail)
             refine qm8 ?hnoB (by kernel_rfl) ?_
             case hnoB => rintro ⟨a, w, h⟩; exact h
             go_wp2_with (at_builtin; refine Stop.out ?_)
             refine Stop.mk ?_
             have hl16 : (((x.take j).map (fun n => (⟨n, n⟩ : S25))).length + 1) * 16 ≤ 140737488355328 := by simp; omega
             refine Kd.R_append k25 (w0 := wr) (lb + 3) rfl (.tmp 86) (.tmp 90) 32 25 (.agg #[.int .i64 0, .int .i64 0]) 16 rfl Try.underlying32 qqx rfl (by decide) (by omega) v2 ((x.take j).map (fun n => ⟨n, n⟩)) ⟨rd x j, rd x j⟩ [.int .i64 (rd x j), .int .i64 (rd x j)] (fun _ => True) (fun _ => False) rfl rfl (qgr _ _ _ ⟨rd x j, rd x j⟩) (fun _ hk => hk.elim) (fun _ _ => trivial) HG2.out (Below.refl _ _) HO2.out.sz hl16 ?_; intro v3 w3 hr3 hb3 hgr3 hat3; obtain ⟨go3, co3, rfl, _, _, _⟩ := Kd.R_form hr3 (by simp); have hob3 : w3.cell? ⟨lb + 2, 0, none⟩ = some v2 := (qaf (qdK HG2.out hgr3 (by decide) HG1.out) 0).trans rfl; have hof3 := qaj (qdK HG2.out hgr3 (by decide) HG1.out) 0; have HSN := qaa.mk (HO2.out.app qrx HG1.out HG2.out hgr3 hr3 (by simp) HROW.out)
             go_wp2
             gi_wp2
             gi_roundg d
             case measure => omega
             case rel =>
              refine ⟨j + 1, by simp, ⟨by have := HJ.out; omega⟩, ⟨?_⟩⟩; have h5 := HSN.out; rw [List.take_succ_eq_append_getElem hj, List.map_append, List.map_singleton]
              have h6 : rd x (j : Int) = x[j] := by simp [rd, List.getD_eq_getElem?_getD, List.getElem?_eq_getElem hj]
              rw [← h6]
              simpa using h5
            ·
             have hjx : j = x.length := by have := HJ.out; omega
             subst hjx
             gi_wp2
             gi_meet
             case rel => exact ⟨by have := HO2.out; rw [List.take_length] at this; exact this⟩
          ·
           have hod : decide (out = []) = false := decide_eq_false ho
           gi_wp2
           gi_meet
           case rel => exact ⟨by rw [if_neg ho]; exact HO.out⟩
         case rest =>
          clear HO; have HO := hcut; obtain ⟨o2, ho2⟩ : ∃ o2, (if out = [] then x.map (fun n => (⟨n, n⟩ : S25)) else out) = o2 := ⟨_, rfl⟩
          have hl2 : o2.length = x.length := by
           rw [← ho2]
           rcases HOUT.out with h | h
           ·
            rw [if_pos h]; simp
           ·
            by_cases h0 : out = []
            ·
             rw [if_pos h0]; simp
            ·
             rw [if_neg h0, h, HXL.out]
          rw [ho2] at HO; have HL2 := qaa.mk hl2; have HE2 := qaa.mk ho2; clear ho2 hl2
          gi_wp2
          gi_loopg [95] x.length (fun d v95 wr => ∃ (i : Nat), v95 = .int .i64 (i : Int) ∧ qaa (i + d = x.length) ∧ qaa (ShO w A0 c0 l0.length A1 c1 l1.length lb (lb + 1) (lb + 2) (lb + 3) Ax x W wr (qfJ o2 x i)))
          case atStart => exact ⟨0, rfl, ⟨by omega⟩, ⟨by rw [qpK]; exact HO.out⟩⟩
          case round =>
           obtain ⟨j, rfl, HJ, HQ⟩ := hrel
           by_cases hj : j < x.length
           ·
            obtain ⟨d, rfl⟩ : ∃ d, gk = d + 1 := ⟨gk - 1, by have := HJ.out; omega⟩; obtain ⟨ad, ea, hx0⟩ := Kd.at_int HQ.out.cx (j : Int) (by omega) (by omega); subst ea; rw [Int.toNat_natCast] at hx0; obtain ⟨v2, g1, g2, g3⟩ := HQ.out.ex; obtain ⟨oj, hoj⟩ : ∃ oj, qfJ o2 x j = oj := ⟨_, rfl⟩
            have hjo : oj.length = x.length := by rw [← hoj]; exact qmX HL2.out (by omega)
            rw [hoj] at g2 g3; obtain ⟨go, co, rfl, _, _, _⟩ := Kd.R_form g2 (by omega); have hob : wr.cell? ⟨lb + 2, 0, none⟩ = some (.slice (some ⟨go, 0, none⟩) oj.length co) := (qaf g1 0).trans rfl
            have hjl : j < oj.length := by omega
            obtain ⟨c, hcl, hM, hcc, hcf⟩ := Kd.R_elem g2 z25 (j : Int) (by omega) (by omega); obtain ⟨p, hp⟩ : ∃ p, oj.getD j z25 = p := ⟨_, rfl⟩; rw [Int.toNat_natCast] at hM hcc hcf; rw [hp] at hM; obtain rfl := qqr hM; have he0 : wr.cell? ⟨go, j * 2, none⟩ = some (.int .i64 p.f0) := hcc 0 _ rfl; have he1 : wr.cell? ⟨go, j * 2 + 1, none⟩ = some (.int .i64 p.f1) := hcc 1 _ rfl; have HCC := qaa.mk hcc; have HG1 := qaa.mk g1; have HG2 := qaa.mk g2; have HP := qaa.mk hp; have HOJ := qaa.mk hoj; have HJO := qaa.mk hjo; clear hcc g1 g2 g3 hp hoj hjo hcl hM hcf; have hu25 := Try.underlying25
            gi_upto_region 27 with (fail)
            refine qj3 18 hmix ?hnoC (by kernel_rfl) (by kernel_rfl) ?_
            case hnoC => rintro ⟨a, w, h⟩; exact h
            simp only [List.take_succ_cons, List.take_zero, List.drop_succ_cons, List.drop_zero]
            repeat still_step
            refine wpStill_nil ?_; change wpList _ _ _ _ _ (World.drew _); refine Kd.R_store k25 (w0 := wr.drew) (lb + 3) rfl rfl 25 (.tmp 117) (.tmp 116) rfl 25 (o' := j * 2) (j : Int) 0 oj ⟨if rd x (j : Int) < p.f0 then rd x (j : Int) else p.f0, if p.f1 < rd x (j : Int) then rd x (j : Int) else p.f1⟩ (.agg #[.int .i64 (if rd x (j : Int) < p.f0 then rd x (j : Int) else p.f0), .int .i64 (if p.f1 < rd x (j : Int) then rd x (j : Int) else p.f1)]) [.int .i64 (if rd x (j : Int) < p.f0 then rd x (j : Int) else p.f0), .int .i64 (if p.f1 < rd x (j : Int) then rd x (j : Int) else p.f1)] [.int .i64 p.f0, .int .i64 p.f1] (fun _ => True) (fun _ => False) rfl (by rw [Int.toNat_natCast]; rfl) rfl rfl (by rw [qst.1]; rfl) (by simp [Value.oneCell']) (Kd.R_drew HG2.out) (by omega) (by omega) rfl (by rw [Int.toNat_natCast]; exact HCC.out) (Nat.le_refl 2) (qgr _ _ _ ⟨if rd x (j : Int) < p.f0 then rd x (j : Int) else p.f0, if p.f1 < rd x (j : Int) then rd x (j : Int) else p.f1⟩) (fun _ hk => hk.elim) (Below.refl _ _) ?_; intro w1 hr1 hb1 hgr1
            have hset : oj.set (j : Int).toNat ⟨if rd x (j : Int) < p.f0 then rd x (j : Int) else p.f0, if p.f1 < rd x (j : Int) then rd x (j : Int) else p.f1⟩ = qfJ o2 x (j + 1) := by
             rw [Int.toNat_natCast, ← HOJ.out]
             exact qpO HL2.out hj (by rw [HOJ.out]; exact HP.out)
            rw [hset] at hr1; have HSN := qaa.mk (HQ.out.put qrx HG1.out HG2.out (qh5 hgr1) hr1 (by intro e; have := qmX (j := j + 1) HL2.out (by omega); rw [e] at this; simp at this; omega) HROW.out); clear hset
            go_wp2
            all_goals
             gi_wp2
            all_goals
             gi_roundg d
             case measure => omega
             case rel => exact ⟨j + 1, by simp, ⟨by have := HJ.out; omega⟩, HSN⟩
           ·
            have hjx : j = x.length := by have := HJ.out; omega
            subst hjx
            gi_wp2
            have h5 := HQ.out; rw [qqm HL2.out] at h5; obtain ⟨v2, g1, g2, g3⟩ := h5.ex; refine ⟨h5.kf, h5.kr, ⟨⟨v2, _, ?_, g1, g2, g3⟩, h5.bx, h5.lo, h5.hi, h5.sz⟩⟩; rw [HST.out, ← HE2.out]
            rfl
     case done =>
      intro D W hD hI hK; obtain ⟨v, out, h1, h2, h3, h4⟩ := hI.ex; have hco : W.cell? ⟨lb + 2, 0, none⟩ = some v := (qaf h2 0).trans rfl; have hF2 := HF.out; rw [h1] at hF2
      have hDw : w.heap.size ≤ D := by omega
      have HBW := qaa.mk hI.bx.below; have HKD := qaa.mk hK; have HR3 := qaa.mk h3
      have heq : ∀ (a : Option Addr) (n c : Nat), (binOp .eql 32 (.slice a n c) (.slice none 0 0)).run Try.prog W = .ok (.bool a.isNone) W := fun a n c => Lib.run_eql_slice_nil W 32 25 a n c 0 0 Try.underlying32
      clear hI h2 h1 h3 HF hK
      by_cases ho : out = []
      ·
       obtain rfl := h4.2 ho; subst ho
       injection hF2 with hF2
       replace hF2 : (([], 4) : List S25 × Int) = (r1, r2) := hF2
       injection hF2 with e1 e2
       subst e1 e2; clear h4 HR3
       gi_wp2
       simp only [Exit.noGoto]; refine ⟨by simp, .inl ⟨_, _, rfl, run_takeDeferred HKD.out, ?_⟩⟩; refine ⟨_, results_tmp2 rfl _ _ _, ?_⟩
       exact ⟨_, rfl, Kd.V_nil _ _ _ _ _, HBW.out.grown (grownBy_putObj' _ _ _) HBW.out.size (fun r e => by cases e; omega)⟩
      ·
       injection hF2 with hF2
       replace hF2 : (out, (0 : Int)) = (r1, r2) := by rw [← hF2]; simp [ho]
       injection hF2 with e1 e2
       subst e1 e2; have hpos : 0 < out.length := List.length_pos_iff.2 ho; obtain ⟨go, co, eo, gb, gl, cl, HG⟩ := Kd.R_form HR3.out hpos; subst eo; have hcc := (Kd.R_reads' HR3.out).2.1; have hcut := qhS (P := Try.prog) 32 25 Try.underlying32 rfl (some ⟨go, 0, none⟩) out.length co hcc; have HGC := qaa.mk HG; clear HG h4 ho
       gi_wp2
       simp only [Exit.noGoto]; refine ⟨by simp, .inl ⟨_, _, rfl, run_takeDeferred HKD.out, ?_⟩⟩; refine ⟨_, results_tmp2 rfl _ _ _, ?_⟩; have hgp := grownBy_putObj' W D (.deferred none); have hR4 : Kd.R k25 25 W w.heap.size (fun k_ => w.heap.size ≤ k_) (.slice (some ⟨go, 0, none⟩) out.length co) out := Kd.R_mono (Kd.R_bound (Kd.R_lower HR3.out (by omega))) (fun _ hk => hk.2.1)
       have hne : go ≠ D := fun e => by
        have h5 := HGC.out; rw [e, HKD.out] at h5; cases h5
       refine ⟨_, rfl, qp7 (Kd.R_mono (Kd.R_move (Kd.R_types2 hR4 HKD.out) (fun k hk => World.putObj_heap_other hk.2)) (fun _ hk => hk.1)) _ rfl, HBW.out.grown hgp HBW.out.size (fun r e => by cases e; omega)⟩
end Go.Proofs.Ytmhomdohhihlcaa.P
namespace Go.Proofs.Ytmhomdohhihlcaa.P
open Go.RowKit Go.Proofs.YtmhomdohhihlcaaW.PrintWords Go.Proofs.YtmhomdohhihlcaaW.PrintLast Go.Proofs.YtmhomdohhihlcaaW.PrintMore
attribute [local go_sem] qbT qbR qb7 qb6 qbH qbG qbS qbU
mutual
def qaY.l0 : Nat → List (S68) → Int → Int → Bool → List (S68) → Int → Int → Option (Int × Int × Int)
 | 0, _, _, _, _, _, _, _ => none
 | k + 1, x0, x1, x2, x8, x17, x18, x19 => if x19 < x18 then (if 0 ≤ x19 then (if x19 < (x17.length : Int) then (if x8 = true then ((qat.f ((qa3 x17 x19).f0) 0 10000).bind fun t105 => (if t105 = true then ((qdF.f ((qa3 x17 x19).f1.f0) ((qa3 x17 x19).f1.f1) 20).bind fun t106 => (qaY.l0 k x0 x1 x2 t106 x17 x18 (wrap64 (x19 + 1)))) else (qaY.l0 k x0 x1 x2 false x17 x18 (wrap64 (x19 + 1))))) else (qaY.l0 k x0 x1 x2 false x17 x18 (wrap64 (x19 + 1)))) else (none)) else (none)) else (if x8 = true then ((qat.f x1 0 20).bind fun t107 => (if t107 = true then ((qat.f x2 x1 20).bind fun t108 => (qaY.j1 k x0 x1 x2 (!t108))) else (qaY.j1 k x0 x1 x2 true))) else (some (0, 0, 90)))
def qaY.j1 : Nat → List (S68) → Int → Int → Bool → Option (Int × Int × Int)
 | 0, _, _, _, _ => none
 | k + 1, x0, x1, x2, x46 => if x46 = true then (some (0, 0, 7)) else (qaY.l1 k x1 x2 x0 (x0.length : Int) 0 0 0)
def qaY.l1 : Nat → Int → Int → List (S68) → Int → Int → Int → Int → Option (Int × Int × Int)
 | 0, _, _, _, _, _, _, _ => none
 | k + 1, x1, x2, x48, x49, x50, qf3, qf4 => if x50 < x49 then (if 0 ≤ x50 then (if x50 < (x48.length : Int) then (if x1 ≤ ((qa3 x48 x50).f1.f0) then (qaY.j3 k x1 x2 x48 x49 x50 (decide (((qa3 x48 x50).f1.f1) ≤ x2)) qf3 qf4 ((qa3 x48 x50).f0) ((qa3 x48 x50).f1.f0) ((qa3 x48 x50).f1.f1)) else (qaY.j3 k x1 x2 x48 x49 x50 false qf3 qf4 ((qa3 x48 x50).f0) ((qa3 x48 x50).f1.f0) ((qa3 x48 x50).f1.f1))) else (none)) else (none)) else (some (qf3, qf4, 0))
def qaY.j3 : Nat → Int → Int → List (S68) → Int → Int → Bool → Int → Int → Int → Int → Int → Option (Int × Int × Int)
 | 0, _, _, _, _, _, _, _, _, _, _, _ => none
 | k + 1, x1, x2, x48, x49, x50, x65, qf3, qf4, qjt, qoL, qoM => if x65 = true then (if x1 ≤ qoM then (if qoL ≤ x2 then (qaY.l1 k x1 x2 x48 x49 (wrap64 (x50 + 1)) (wrap64 (qf3 + qjt)) (wrap64 (qf4 + qjt))) else (qaY.l1 k x1 x2 x48 x49 (wrap64 (x50 + 1)) (wrap64 (qf3 + qjt)) qf4)) else (qaY.l1 k x1 x2 x48 x49 (wrap64 (x50 + 1)) (wrap64 (qf3 + qjt)) qf4)) else (if x1 ≤ qoM then (if qoL ≤ x2 then (qaY.l1 k x1 x2 x48 x49 (wrap64 (x50 + 1)) qf3 (wrap64 (qf4 + qjt))) else (qaY.l1 k x1 x2 x48 x49 (wrap64 (x50 + 1)) qf3 qf4)) else (qaY.l1 k x1 x2 x48 x49 (wrap64 (x50 + 1)) qf3 qf4))
end
def qaY.f (k : Nat) (l0 : List (S68)) (a1 : Int) (a2 : Int) : Option (Int × Int × Int) := qaY.l0 k l0 a1 a2 (decide ((l0.length : Int) ≤ 20)) l0 (l0.length : Int) 0
set_option maxHeartbeats 8000000 in
set_option maxRecDepth 100000 in
theorem qaY.calls (k : Nat) (A0 : Option Addr) (c0 : Nat) (l0 : List (S68)) (a1 : Int) (a2 : Int) (r1 : Int) (r2 : Int) (r3 : Int) (w : World) (hr0 : Kd.C k68 w A0 l0.length l0) (hc0 : l0.length ≤ c0) (h : qaY.f k l0 a1 a2 = some (r1, r2, r3)) :
  Calls Try.prog 19 #[.slice A0 l0.length c0, .int .i64 a1, .int .i64 a2] w fun e w' => e = .returned (.tuple #[.agg #[.int .i64 r1, .int .i64 r2], .int .i64 r3]) ∧ Below w.heap.size w w' := by
 have hu25 := Try.underlying25
 have hu68 := Try.underlying68
 have HR0 := qaa.mk hr0
 have HC0 := qaa.mk hc0
 clear hr0 hc0
 have HB := qaa.mk (Below.refl w.heap.size w)
 have H : (qaY.l0 k l0 a1 a2 (decide ((l0.length : Int) ≤ 20)) l0 (l0.length : Int) 0) = some (r1, r2, r3) := h
 clear h
 have H' := qaa.mk H
 clear H
 go_enter Try.func19, Try.ntmps19
 go_wp2_with (first | ((with_reducible refine qaN (N := 6) rfl ?_); refine qba ?hg (N := 6) ?hd (cs := #[.int .i64 0, .int .i64 0]) (t := 25) ?hr ?_; (case hd => rfl); (case hg => rfl); (case hr => first | (go_simp; done) | (go_simp; rfl)); intro qcT hg w4 hbox hb; have n0_ := qaa.mk (qap (by repeat (first | (with_reducible first | exact HB.out | apply qac | apply qab | apply qag) | exact HB.out)) hb); have n1_ := qaa.mk (hbox); have n2_ := qaa.mk ((by rw [hg]; exact (qal (by repeat (first | (with_reducible first | exact HB.out | apply qac | apply qab | apply qag) | exact HB.out))) : w.heap.size ≤ qcT)); have n3_ := qaa.mk ((by rw [hg]; exact (qal (by repeat (first | (with_reducible first | exact HB.out | apply qac | apply qab | apply qag) | exact HB.out))) : w.heap.size ≤ qcT)); clear HB; have HB := n0_; have qbW := n1_; have qDD := n2_; have qdm := n3_; clear n0_ n1_ n2_ n3_; clear hb hbox hg))
 go_loopg [8, 19] k (fun kq v8 v19 w' => ∃ (x8_1 : Bool) (qcv : Int), v8 = .bool x8_1 ∧ v19 = .int .i64 qcv ∧ qaa (qaY.l0 kq l0 a1 a2 x8_1 l0 (l0.length : Int) qcv = some (r1, r2, r3)) ∧ qaa (kq ≤ k) ∧ qaa (w'.heap[qcT]? = some (.cells #[.int .i64 0, .int .i64 0] 25 (0, 0))) ∧ qaa (Below w.heap.size w w'))
 case atStart => exact ⟨(decide ((l0.length : Int) ≤ 20)), (0), (by first | rfl | (simp; done) | (simp [*]; done)), (by first | rfl | (simp; done) | (simp [*]; done)), H', ⟨Nat.le_refl _⟩, ⟨by (with_reducible repeat (first | refine qae ?_ _ | refine qai ?_ | refine qad ?_ _)); exact qbW.out⟩, ⟨by repeat (first | (with_reducible first | exact HB.out | apply qac | apply qab | apply qag | refine qah ?_ qdm.out) | exact HB.out)⟩⟩
 case round =>
  clear H'
  try clear c1
  try clear p2
  obtain ⟨x8_1, qcv, rfl, rfl, HA, HK1, qbW, HB⟩ := hrel
  cases gk with
  | zero => exact absurd HA.out (by simp [qaY.l0])
  | succ k1 =>
   have H := HA.out
   clear HA
   simp only [qaY.l0] at H
   by_cases c5 : qcv < (l0.length : Int)
   ·
    rw [if_pos c5] at H; have c5b0 : decide (qcv < (l0.length : Int)) = true := decide_eq_true c5; clear c5
    by_cases c6 : 0 ≤ qcv
    ·
     rw [if_pos c6] at H; have c6b0 : decide (0 ≤ qcv) = true := decide_eq_true c6; clear c6
     by_cases c7 : qcv < (l0.length : Int)
     ·
      rw [if_pos c7] at H; have c7b0 : decide (qcv < (l0.length : Int)) = true := decide_eq_true c7; clear c7
      by_cases c8 : x8_1 = true
      ·
       subst c8
       have H1 : ((qat.f ((qa3 l0 qcv).f0) 0 10000).bind fun t105 => (if t105 = true then ((qdF.f ((qa3 l0 qcv).f1.f0) ((qa3 l0 qcv).f1.f1) 20).bind fun t106 => (qaY.l0 k1 l0 a1 a2 t106 l0 (l0.length : Int) (wrap64 (qcv + 1)))) else (qaY.l0 k1 l0 a1 a2 false l0 (l0.length : Int) (wrap64 (qcv + 1))))) = some (r1, r2, r3) := by rw [if_pos rfl] at H; exact H
       clear H; have H := H1; clear H1; replace H := Option.bind_eq_some_iff.mp H; obtain ⟨t105, A90, H⟩ := H; replace H : (if t105 = true then ((qdF.f ((qa3 l0 qcv).f1.f0) ((qa3 l0 qcv).f1.f1) 20).bind fun t106 => (qaY.l0 k1 l0 a1 a2 t106 l0 (l0.length : Int) (wrap64 (qcv + 1)))) else (qaY.l0 k1 l0 a1 a2 false l0 (l0.length : Int) (wrap64 (qcv + 1)))) = some (r1, r2, r3) := H; have A9 := qaa.mk A90; clear A90
       by_cases c10 : t105 = true
       ·
        subst c10
        have H1 : ((qdF.f ((qa3 l0 qcv).f1.f0) ((qa3 l0 qcv).f1.f1) 20).bind fun t106 => (qaY.l0 k1 l0 a1 a2 t106 l0 (l0.length : Int) (wrap64 (qcv + 1)))) = some (r1, r2, r3) := by rw [if_pos rfl] at H; exact H
        clear H; have H := H1; clear H1; replace H := Option.bind_eq_some_iff.mp H; obtain ⟨t106, A110, H⟩ := H; replace H : (qaY.l0 k1 l0 a1 a2 t106 l0 (l0.length : Int) (wrap64 (qcv + 1))) = some (r1, r2, r3) := H; have A11 := qaa.mk A110; clear A110; have H' := qaa.mk H; clear H; have p103 : 0 ≤ (qcv : Int) := of_decide_eq_true (by first | (with_reducible assumption) | assumption); have q103 : qcv < (l0.length : Int) := of_decide_eq_true (by first | (with_reducible assumption) | assumption); obtain ⟨qry, e103, qet, qeu, qev⟩ := qk1 HR0.out qcv p103 q103; cases e103; replace qet := (HB.out.cell (World.block_lt_of_cell? w _ qet)).trans qet; replace qeu := (HB.out.cell (World.block_lt_of_cell? w _ qeu)).trans qeu; replace qev := (HB.out.cell (World.block_lt_of_cell? w _ qev)).trans qev; replace p103 := eq_true p103; replace q103 := eq_true q103
        go_wp2_with (first | ((with_reducible refine qaN (N := 10) rfl ?_); refine qba ?hg (N := 10) ?hd (cs := #[.int .i64 0, .int .i64 0, .int .i64 0]) (t := 68) ?hr ?_; (case hd => rfl); (case hg => rfl); (case hr => first | (go_simp; done) | (go_simp; rfl)); intro qd0 hg w12 hbox hb; have n0_ := qaa.mk (qam (g := qcT) (o := .cells #[.int .i64 0, .int .i64 0] 25 (0, 0)) (by (with_reducible repeat (first | refine qae ?_ _ | refine qai ?_ | refine qad ?_ _)); exact qbW.out) hb); have n1_ := qaa.mk (qap (by repeat (first | (with_reducible first | exact HB.out | apply qac | apply qab | apply qag | refine qah ?_ qdm.out) | exact HB.out)) hb); have n2_ := qaa.mk (hbox); have n3_ := qaa.mk ((by rw [hg]; exact (qal (by repeat (first | (with_reducible first | exact HB.out | apply qac | apply qab | apply qag | refine qah ?_ qdm.out) | exact HB.out))) : w.heap.size ≤ qd0)); have n4_ := qaa.mk ((by rw [hg]; exact (qal (by repeat (first | (with_reducible first | exact HB.out | apply qac | apply qab | apply qag | refine qah ?_ qdm.out) | exact HB.out))) : w.heap.size ≤ qd0)); have n5_ := qaa.mk ((by rw [hg]; exact Nat.ne_of_lt (qaL (g := qcT) (o := .cells #[.int .i64 0, .int .i64 0] 25 (0, 0)) (by (with_reducible repeat (first | refine qae ?_ _ | refine qai ?_ | refine qad ?_ _)); exact qbW.out)) : qcT ≠ qd0)); have n6_ := qaa.mk ((by rw [hg]; exact Nat.ne_of_gt (qaL (g := qcT) (o := .cells #[.int .i64 0, .int .i64 0] 25 (0, 0)) (by (with_reducible repeat (first | refine qae ?_ _ | refine qai ?_ | refine qad ?_ _)); exact qbW.out)) : qd0 ≠ qcT)); clear qbW; clear HB; have qbW := n0_; have HB := n1_; have qd8 := n2_; have qrz := n3_; have qky := n4_; have qdM := n5_; have qhZ := n6_; clear n0_ n1_ n2_ n3_ n4_ n5_ n6_; clear hb hbox hg; have qDE := qhZ.out; have qDF := qdM.out; have qeJ : w12.cell? ⟨qd0, 0, none⟩ = some (.int .i64 0) := (qaf qd8.out 0).trans rfl; have qeK : w12.cell? ⟨qd0, 1, none⟩ = some (.int .i64 0) := (qaf qd8.out 1).trans rfl; have qeL : w12.cell? ⟨qd0, 2, none⟩ = some (.int .i64 0) := (qaf qd8.out 2).trans rfl; have qeM := qaj qd8.out 0; have qeN := qaj qd8.out 1; have qeO := qaj qd8.out 2) | (go_at_call 65; (with_reducible refine (qat.calls ((qa3 l0 qcv).f0) 0 10000 true _ A9.out).mono ?_); rintro e w' ⟨rfl, ⟨nd, rfl⟩⟩) | (go_at_call 66; (with_reducible refine (qdF.calls ((qa3 l0 qcv).f1.f0) ((qa3 l0 qcv).f1.f1) 20 t106 _ A11.out).mono ?_); rintro e w15 ⟨rfl, hb⟩; have n0_ := qaa.mk (qam (g := qcT) (o := .cells #[.int .i64 0, .int .i64 0] 25 (0, 0)) (by (with_reducible repeat (first | refine qae ?_ _ | refine qai ?_ | refine qad ?_ _)); refine qao ?_ qdM.out _; (with_reducible repeat (first | refine qae ?_ _ | refine qai ?_ | refine qad ?_ _)); refine qao ?_ qdM.out _; (with_reducible repeat (first | refine qae ?_ _ | refine qai ?_ | refine qad ?_ _)); refine qao ?_ qdM.out _; (with_reducible repeat (first | refine qae ?_ _ | refine qai ?_ | refine qad ?_ _)); exact qbW.out) hb); have n1_ := qaa.mk (qam (g := qd0) (o := .cells #[.int .i64 ((qa3 l0 qcv).f0), .int .i64 ((qa3 l0 qcv).f1.f0), .int .i64 ((qa3 l0 qcv).f1.f1)] 68 (0, 0)) (by (with_reducible repeat (first | refine qae ?_ _ | refine qai ?_ | refine qad ?_ _)); refine qaE (cs := #[.int .i64 ((qa3 l0 qcv).f0), .int .i64 ((qa3 l0 qcv).f1.f0), .int .i64 0]) ?_ 2 _ rfl; (with_reducible repeat (first | refine qae ?_ _ | refine qai ?_ | refine qad ?_ _)); refine qaE (cs := #[.int .i64 ((qa3 l0 qcv).f0), .int .i64 0, .int .i64 0]) ?_ 1 _ rfl; (with_reducible repeat (first | refine qae ?_ _ | refine qai ?_ | refine qad ?_ _)); refine qaE (cs := #[.int .i64 0, .int .i64 0, .int .i64 0]) ?_ 0 _ rfl; (with_reducible repeat (first | refine qae ?_ _ | refine qai ?_ | refine qad ?_ _)); exact qd8.out) hb); have n2_ := qaa.mk (qap (by repeat (first | (with_reducible first | exact HB.out | apply qac | apply qab | apply qag | refine qah ?_ qdm.out | refine qah ?_ qky.out) | exact HB.out)) hb); clear qbW; clear qd8; clear HB; have qbW := n0_; have qd8 := n1_; have HB := n2_; clear n0_ n1_ n2_; (try clear hb); (try clear hb2); (try clear hk); (try clear hi)))
        go_roundg k1
        case measure => have := HK1.out; omega
        case rel => exact ⟨(t106), (wrap64 (qcv + 1)), (by first | rfl | (simp; done) | (simp [*]; done)), (by first | rfl | (simp; done) | (simp [*]; done)), H', ⟨by have := HK1.out; omega⟩, ⟨by (with_reducible repeat (first | refine qae ?_ _ | refine qai ?_ | refine qad ?_ _)); exact qbW.out⟩, ⟨by repeat (first | (with_reducible first | exact HB.out | apply qac | apply qab | apply qag | refine qah ?_ qdm.out | refine qah ?_ qky.out) | exact HB.out)⟩⟩
       replace c10 := Bool.eq_false_iff.mpr c10; subst c10
       have H1 : (qaY.l0 k1 l0 a1 a2 false l0 (l0.length : Int) (wrap64 (qcv + 1))) = some (r1, r2, r3) := by rw [if_neg (show ¬ (false = true) by decide)] at H; exact H
       clear H; have H := H1; clear H1; have H' := qaa.mk H; clear H; have p103 : 0 ≤ (qcv : Int) := of_decide_eq_true (by first | (with_reducible assumption) | assumption); have q103 : qcv < (l0.length : Int) := of_decide_eq_true (by first | (with_reducible assumption) | assumption); obtain ⟨qry, e103, qet, qeu, qev⟩ := qk1 HR0.out qcv p103 q103; cases e103; replace qet := (HB.out.cell (World.block_lt_of_cell? w _ qet)).trans qet; replace qeu := (HB.out.cell (World.block_lt_of_cell? w _ qeu)).trans qeu; replace qev := (HB.out.cell (World.block_lt_of_cell? w _ qev)).trans qev; replace p103 := eq_true p103; replace q103 := eq_true q103
       go_wp2_with (first | ((with_reducible refine qaN (N := 10) rfl ?_); refine qba ?hg (N := 10) ?hd (cs := #[.int .i64 0, .int .i64 0, .int .i64 0]) (t := 68) ?hr ?_; (case hd => rfl); (case hg => rfl); (case hr => first | (go_simp; done) | (go_simp; rfl)); intro qd0 hg w16 hbox hb; have n0_ := qaa.mk (qam (g := qcT) (o := .cells #[.int .i64 0, .int .i64 0] 25 (0, 0)) (by (with_reducible repeat (first | refine qae ?_ _ | refine qai ?_ | refine qad ?_ _)); exact qbW.out) hb); have n1_ := qaa.mk (qap (by repeat (first | (with_reducible first | exact HB.out | apply qac | apply qab | apply qag | refine qah ?_ qdm.out) | exact HB.out)) hb); have n2_ := qaa.mk (hbox); have n3_ := qaa.mk ((by rw [hg]; exact (qal (by repeat (first | (with_reducible first | exact HB.out | apply qac | apply qab | apply qag | refine qah ?_ qdm.out) | exact HB.out))) : w.heap.size ≤ qd0)); have n4_ := qaa.mk ((by rw [hg]; exact (qal (by repeat (first | (with_reducible first | exact HB.out | apply qac | apply qab | apply qag | refine qah ?_ qdm.out) | exact HB.out))) : w.heap.size ≤ qd0)); have n5_ := qaa.mk ((by rw [hg]; exact Nat.ne_of_lt (qaL (g := qcT) (o := .cells #[.int .i64 0, .int .i64 0] 25 (0, 0)) (by (with_reducible repeat (first | refine qae ?_ _ | refine qai ?_ | refine qad ?_ _)); exact qbW.out)) : qcT ≠ qd0)); have n6_ := qaa.mk ((by rw [hg]; exact Nat.ne_of_gt (qaL (g := qcT) (o := .cells #[.int .i64 0, .int .i64 0] 25 (0, 0)) (by (with_reducible repeat (first | refine qae ?_ _ | refine qai ?_ | refine qad ?_ _)); exact qbW.out)) : qd0 ≠ qcT)); clear qbW; clear HB; have qbW := n0_; have HB := n1_; have qd8 := n2_; have qrz := n3_; have qky := n4_; have qdM := n5_; have qhZ := n6_; clear n0_ n1_ n2_ n3_ n4_ n5_ n6_; clear hb hbox hg; have quV := qhZ.out; have quW := qdM.out; have qgx : w16.cell? ⟨qd0, 0, none⟩ = some (.int .i64 0) := (qaf qd8.out 0).trans rfl; have qgy : w16.cell? ⟨qd0, 1, none⟩ = some (.int .i64 0) := (qaf qd8.out 1).trans rfl; have qgz : w16.cell? ⟨qd0, 2, none⟩ = some (.int .i64 0) := (qaf qd8.out 2).trans rfl; have qgA := qaj qd8.out 0; have qgB := qaj qd8.out 1; have qgC := qaj qd8.out 2) | (go_at_call 65; (with_reducible refine (qat.calls ((qa3 l0 qcv).f0) 0 10000 false _ A9.out).mono ?_); rintro e w' ⟨rfl, ⟨nd, rfl⟩⟩))
       go_roundg k1
       case measure => have := HK1.out; omega
       case rel => exact ⟨(false), (wrap64 (qcv + 1)), (by first | rfl | (simp; done) | (simp [*]; done)), (by first | rfl | (simp; done) | (simp [*]; done)), H', ⟨by have := HK1.out; omega⟩, ⟨by (with_reducible repeat (first | refine qae ?_ _ | refine qai ?_ | refine qad ?_ _)); refine qao ?_ qdM.out _; (with_reducible repeat (first | refine qae ?_ _ | refine qai ?_ | refine qad ?_ _)); refine qao ?_ qdM.out _; (with_reducible repeat (first | refine qae ?_ _ | refine qai ?_ | refine qad ?_ _)); refine qao ?_ qdM.out _; (with_reducible repeat (first | refine qae ?_ _ | refine qai ?_ | refine qad ?_ _)); exact qbW.out⟩, ⟨by repeat (first | (with_reducible first | exact HB.out | apply qac | apply qab | apply qag | refine qah ?_ qdm.out | refine qah ?_ qky.out) | exact HB.out)⟩⟩
      replace c8 := Bool.eq_false_iff.mpr c8; subst c8
      have H1 : (qaY.l0 k1 l0 a1 a2 false l0 (l0.length : Int) (wrap64 (qcv + 1))) = some (r1, r2, r3) := by rw [if_neg (show ¬ (false = true) by decide)] at H; exact H
      clear H; have H := H1; clear H1; have H' := qaa.mk H; clear H; have p103 : 0 ≤ (qcv : Int) := of_decide_eq_true (by first | (with_reducible assumption) | assumption); have q103 : qcv < (l0.length : Int) := of_decide_eq_true (by first | (with_reducible assumption) | assumption); obtain ⟨qry, e103, qet, qeu, qev⟩ := qk1 HR0.out qcv p103 q103; cases e103; replace qet := (HB.out.cell (World.block_lt_of_cell? w _ qet)).trans qet; replace qeu := (HB.out.cell (World.block_lt_of_cell? w _ qeu)).trans qeu; replace qev := (HB.out.cell (World.block_lt_of_cell? w _ qev)).trans qev; replace p103 := eq_true p103; replace q103 := eq_true q103
      go_wp2_with (first | ((with_reducible refine qaN (N := 10) rfl ?_); refine qba ?hg (N := 10) ?hd (cs := #[.int .i64 0, .int .i64 0, .int .i64 0]) (t := 68) ?hr ?_; (case hd => rfl); (case hg => rfl); (case hr => first | (go_simp; done) | (go_simp; rfl)); intro qd0 hg w19 hbox hb; have n0_ := qaa.mk (qam (g := qcT) (o := .cells #[.int .i64 0, .int .i64 0] 25 (0, 0)) (by (with_reducible repeat (first | refine qae ?_ _ | refine qai ?_ | refine qad ?_ _)); exact qbW.out) hb); have n1_ := qaa.mk (qap (by repeat (first | (with_reducible first | exact HB.out | apply qac | apply qab | apply qag | refine qah ?_ qdm.out) | exact HB.out)) hb); have n2_ := qaa.mk (hbox); have n3_ := qaa.mk ((by rw [hg]; exact (qal (by repeat (first | (with_reducible first | exact HB.out | apply qac | apply qab | apply qag | refine qah ?_ qdm.out) | exact HB.out))) : w.heap.size ≤ qd0)); have n4_ := qaa.mk ((by rw [hg]; exact (qal (by repeat (first | (with_reducible first | exact HB.out | apply qac | apply qab | apply qag | refine qah ?_ qdm.out) | exact HB.out))) : w.heap.size ≤ qd0)); have n5_ := qaa.mk ((by rw [hg]; exact Nat.ne_of_lt (qaL (g := qcT) (o := .cells #[.int .i64 0, .int .i64 0] 25 (0, 0)) (by (with_reducible repeat (first | refine qae ?_ _ | refine qai ?_ | refine qad ?_ _)); exact qbW.out)) : qcT ≠ qd0)); have n6_ := qaa.mk ((by rw [hg]; exact Nat.ne_of_gt (qaL (g := qcT) (o := .cells #[.int .i64 0, .int .i64 0] 25 (0, 0)) (by (with_reducible repeat (first | refine qae ?_ _ | refine qai ?_ | refine qad ?_ _)); exact qbW.out)) : qd0 ≠ qcT)); clear qbW; clear HB; have qbW := n0_; have HB := n1_; have qd8 := n2_; have qrz := n3_; have qky := n4_; have qdM := n5_; have qhZ := n6_; clear n0_ n1_ n2_ n3_ n4_ n5_ n6_; clear hb hbox hg; have quX := qhZ.out; have quY := qdM.out; have qfU : w19.cell? ⟨qd0, 0, none⟩ = some (.int .i64 0) := (qaf qd8.out 0).trans rfl; have qfV : w19.cell? ⟨qd0, 1, none⟩ = some (.int .i64 0) := (qaf qd8.out 1).trans rfl; have qfW : w19.cell? ⟨qd0, 2, none⟩ = some (.int .i64 0) := (qaf qd8.out 2).trans rfl; have qfX := qaj qd8.out 0; have qfY := qaj qd8.out 1; have qfZ := qaj qd8.out 2))
      go_roundg k1
      case measure => have := HK1.out; omega
      case rel => exact ⟨(false), (wrap64 (qcv + 1)), (by first | rfl | (simp; done) | (simp [*]; done)), (by first | rfl | (simp; done) | (simp [*]; done)), H', ⟨by have := HK1.out; omega⟩, ⟨by (with_reducible repeat (first | refine qae ?_ _ | refine qai ?_ | refine qad ?_ _)); refine qao ?_ qdM.out _; (with_reducible repeat (first | refine qae ?_ _ | refine qai ?_ | refine qad ?_ _)); refine qao ?_ qdM.out _; (with_reducible repeat (first | refine qae ?_ _ | refine qai ?_ | refine qad ?_ _)); refine qao ?_ qdM.out _; (with_reducible repeat (first | refine qae ?_ _ | refine qai ?_ | refine qad ?_ _)); exact qbW.out⟩, ⟨by repeat (first | (with_reducible first | exact HB.out | apply qac | apply qab | apply qag | refine qah ?_ qdm.out | refine qah ?_ qky.out) | exact HB.out)⟩⟩
     rw [if_neg c7] at H
     exact absurd H (by simp)
    rw [if_neg c6] at H
    exact absurd H (by simp)
   rw [if_neg c5] at H
   have c5b0 : decide (qcv < (l0.length : Int)) = false := decide_eq_false c5
   clear c5
   by_cases c22 : x8_1 = true
   ·
    subst c22
    have H1 : ((qat.f a1 0 20).bind fun t107 => (if t107 = true then ((qat.f a2 a1 20).bind fun t108 => (qaY.j1 k1 l0 a1 a2 (!t108))) else (qaY.j1 k1 l0 a1 a2 true))) = some (r1, r2, r3) := by rw [if_pos rfl] at H; exact H
    clear H; have H := H1; clear H1; have HC23 := qaa.mk H; clear H
    go_upto_region 9 with (fail)
    go_cut [46] (fun v46 wc => ∃ (kq : Nat) (qlE : Bool), v46 = .bool qlE ∧ qaa (qaY.j1 kq l0 a1 a2 qlE = some (r1, r2, r3)) ∧ qaa (kq ≤ k1) ∧ qaa (wc.heap[qcT]? = some (.cells #[.int .i64 0, .int .i64 0] 25 (0, 0))) ∧ qaa (Below w.heap.size w wc))
    case first =>
     have H := HC23.out; clear HC23; replace H := Option.bind_eq_some_iff.mp H; obtain ⟨t107, A240, H⟩ := H; replace H : (if t107 = true then ((qat.f a2 a1 20).bind fun t108 => (qaY.j1 k1 l0 a1 a2 (!t108))) else (qaY.j1 k1 l0 a1 a2 true)) = some (r1, r2, r3) := H; have A24 := qaa.mk A240; clear A240
     by_cases c25 : t107 = true
     ·
      subst c25
      have H1 : ((qat.f a2 a1 20).bind fun t108 => (qaY.j1 k1 l0 a1 a2 (!t108))) = some (r1, r2, r3) := by rw [if_pos rfl] at H; exact H
      clear H; have H := H1; clear H1; replace H := Option.bind_eq_some_iff.mp H; obtain ⟨t108, A260, H⟩ := H; replace H : (qaY.j1 k1 l0 a1 a2 (!t108)) = some (r1, r2, r3) := H; have A26 := qaa.mk A260; clear A260; have H' := qaa.mk H; clear H
      go_wp2_with (first | ((with_reducible refine qaz (f := 65) rfl ?_); refine qbd (some 39) rfl rfl Try.func65 (by kernel_rfl) rfl #[.int .i64 a1, .int .i64 0, .int .i64 20] rfl (by (try simp only [List.map_toArray, List.map_cons, List.map_nil]); first | done | rfl | (simp only [List.length_drop, List.length_take]; rfl)) ?_; (with_reducible refine (qat.calls a1 0 20 true _ A24.out).mono ?_); rintro e w' ⟨rfl, ⟨nd, rfl⟩⟩; refine ⟨_, rfl, ?_⟩) | (go_at_call 65; (with_reducible refine (qat.calls a2 a1 20 t108 _ A26.out).mono ?_); rintro e w' ⟨rfl, ⟨nd, rfl⟩⟩))
      go_meet
      case rel => exact ⟨_, (!t108), (by first | rfl | (simp; done) | (simp [*]; done)), H', ⟨by have := HK1.out; first | omega | exact Nat.le_refl _⟩, ⟨by (with_reducible repeat (first | refine qae ?_ _ | refine qai ?_ | refine qad ?_ _)); exact qbW.out⟩, ⟨by repeat (first | (with_reducible first | exact HB.out | apply qac | apply qab | apply qag | refine qah ?_ qdm.out) | exact HB.out)⟩⟩
     replace c25 := Bool.eq_false_iff.mpr c25; subst c25
     have H1 : (qaY.j1 k1 l0 a1 a2 true) = some (r1, r2, r3) := by rw [if_neg (show ¬ (false = true) by decide)] at H; exact H
     clear H; have H := H1; clear H1; have H' := qaa.mk H; clear H
     go_wp2_with (first | ((with_reducible refine qaz (f := 65) rfl ?_); refine qbd (some 39) rfl rfl Try.func65 (by kernel_rfl) rfl #[.int .i64 a1, .int .i64 0, .int .i64 20] rfl (by (try simp only [List.map_toArray, List.map_cons, List.map_nil]); first | done | rfl | (simp only [List.length_drop, List.length_take]; rfl)) ?_; (with_reducible refine (qat.calls a1 0 20 false _ A24.out).mono ?_); rintro e w' ⟨rfl, ⟨nd, rfl⟩⟩; refine ⟨_, rfl, ?_⟩))
     go_meet
     case rel => exact ⟨_, (true), (by first | rfl | (simp; done) | (simp [*]; done)), H', ⟨by have := HK1.out; first | omega | exact Nat.le_refl _⟩, ⟨by (with_reducible repeat (first | refine qae ?_ _ | refine qai ?_ | refine qad ?_ _)); exact qbW.out⟩, ⟨by repeat (first | (with_reducible first | exact HB.out | apply qac | apply qab | apply qag | refine qah ?_ qdm.out) | exact HB.out)⟩⟩
    case rest =>
     clear HC23; (try clear c1); (try clear p1); (try clear q1); (try clear hx1); (try clear c2); (try clear p2); (try clear c5); (try clear c5b0); (try clear c6); (try clear c6b0); (try clear p6); (try clear c7); (try clear c7b0); (try clear c8); (try clear c10); (try clear p10); (try clear q10); (try clear hx10); (try clear c13); (try clear c17); (try clear c19); (try clear c20); (try clear c22); (try clear c25); (try clear qeJ); (try clear qeK); (try clear qeL); (try clear qgx); (try clear qgy); (try clear qgz); (try clear qfU); (try clear qfV); (try clear qfW); (try clear qeM); (try clear qeN); (try clear qeO); (try clear qgA); (try clear qgB); (try clear qgC); (try clear qfX); (try clear qfY); (try clear qfZ); (try clear qet); (try clear qeu); (try clear qev); (try clear p103); (try clear p2); (try clear q103); obtain ⟨kq, qlE, rfl, HA, HJ22, qbW, HB⟩ := hcut
     cases kq with
     | zero => exact absurd HA.out (by simp [qaY.j1])
     | succ kj22 =>
      have H := HA.out; clear HA; simp only [qaY.j1] at H
      by_cases c27 : qlE = true
      ·
       subst c27
       have H1 : (some (0, 0, 7)) = some (r1, r2, r3) := by rw [if_pos rfl] at H; exact H
       clear H; have H := H1; clear H1; simp only [Option.some.injEq, Prod.mk.injEq] at H; obtain ⟨rfl, rfl, rfl⟩ := H; have qia : wc.cell? ⟨qcT, 0, none⟩ = some (.int .i64 0) := (qaf qbW.out 0).trans rfl; have qib : wc.cell? ⟨qcT, 1, none⟩ = some (.int .i64 0) := (qaf qbW.out 1).trans rfl; have qic := qaj qbW.out 0; have qid := qaj qbW.out 1
       go_wp2
       refine bodyPost_ret (qjU rfl _ _ qcT 25 #[.int .i64 0, .int .i64 0] (0, 0) _ rfl (by (with_reducible repeat (first | refine qae ?_ _ | refine qai ?_ | refine qad ?_ _)); refine qaE (cs := #[.int .i64 0, .int .i64 0]) ?_ 1 _ rfl; (with_reducible repeat (first | refine qae ?_ _ | refine qai ?_ | refine qad ?_ _)); refine qaE (cs := #[.int .i64 0, .int .i64 0]) ?_ 0 _ rfl; (with_reducible repeat (first | refine qae ?_ _ | refine qai ?_ | refine qad ?_ _)); exact qbW.out) Try.underlying25 rfl (by kernel_rfl)) rfl ?_
       exact ⟨by first | rfl | (simp [qaC, qaB] <;> rfl) | (simp [*, qaC, qaB] <;> rfl), by repeat (first | (with_reducible first | exact HB.out | apply qac | apply qab | apply qag | refine qah ?_ qdm.out) | exact HB.out)⟩
      replace c27 := Bool.eq_false_iff.mpr c27; subst c27
      have H1 : (qaY.l1 kj22 a1 a2 l0 (l0.length : Int) 0 0 0) = some (r1, r2, r3) := by rw [if_neg (show ¬ (false = true) by decide)] at H; exact H
      clear H; have H := H1; clear H1; have H' := qaa.mk H; clear H
      go_wp2_with (first | ((with_reducible refine qaN (N := 11) rfl ?_); refine qba ?hg (N := 11) ?hd (cs := #[.int .i64 0, .int .i64 0]) (t := 25) ?hr ?_; (case hd => rfl); (case hg => rfl); (case hr => first | (go_simp; done) | (go_simp; rfl)); intro qeg hg w29 hbox hb; have n0_ := qaa.mk (qam (g := qcT) (o := .cells #[.int .i64 0, .int .i64 0] 25 (0, 0)) (by (with_reducible repeat (first | refine qae ?_ _ | refine qai ?_ | refine qad ?_ _)); exact qbW.out) hb); have n1_ := qaa.mk (qap (by repeat (first | (with_reducible first | exact HB.out | apply qac | apply qab | apply qag | refine qah ?_ qdm.out) | exact HB.out)) hb); have n2_ := qaa.mk (hbox); have n3_ := qaa.mk ((by rw [hg]; exact (qal (by repeat (first | (with_reducible first | exact HB.out | apply qac | apply qab | apply qag | refine qah ?_ qdm.out) | exact HB.out))) : w.heap.size ≤ qeg)); have n4_ := qaa.mk ((by rw [hg]; exact (qal (by repeat (first | (with_reducible first | exact HB.out | apply qac | apply qab | apply qag | refine qah ?_ qdm.out) | exact HB.out))) : w.heap.size ≤ qeg)); have n5_ := qaa.mk ((by rw [hg]; exact Nat.ne_of_lt (qaL (g := qcT) (o := .cells #[.int .i64 0, .int .i64 0] 25 (0, 0)) (by (with_reducible repeat (first | refine qae ?_ _ | refine qai ?_ | refine qad ?_ _)); exact qbW.out)) : qcT ≠ qeg)); have n6_ := qaa.mk ((by rw [hg]; exact Nat.ne_of_gt (qaL (g := qcT) (o := .cells #[.int .i64 0, .int .i64 0] 25 (0, 0)) (by (with_reducible repeat (first | refine qae ?_ _ | refine qai ?_ | refine qad ?_ _)); exact qbW.out)) : qeg ≠ qcT)); clear qbW; clear HB; have qbW := n0_; have HB := n1_; have qda := n2_; have qDG := n3_; have qgG := n4_; have qeB := n5_; have qh0 := n6_; clear n0_ n1_ n2_ n3_ n4_ n5_ n6_; clear hb hbox hg))
      go_loopg [50] kj22 (fun kq v50 w' => ∃ (qbm : Int) (qb0 : Int) (qb5 : Int), v50 = .int .i64 qbm ∧ qaa (qaY.l1 kq a1 a2 l0 (l0.length : Int) qbm qb0 qb5 = some (r1, r2, r3)) ∧ qaa (kq ≤ kj22) ∧ qaa (w'.heap[qcT]? = some (.cells #[.int .i64 0, .int .i64 0] 25 (0, 0))) ∧ qaa (w'.heap[qeg]? = some (.cells #[.int .i64 qb0, .int .i64 qb5] 25 (0, 0))) ∧ qaa (Below w.heap.size w w'))
      case atStart => exact ⟨(0), (0), (0), (by first | rfl | (simp; done) | (simp [*]; done)), H', ⟨Nat.le_refl _⟩, ⟨by (with_reducible repeat (first | refine qae ?_ _ | refine qai ?_ | refine qad ?_ _)); exact qbW.out⟩, ⟨by (with_reducible repeat (first | refine qae ?_ _ | refine qai ?_ | refine qad ?_ _)); exact qda.out⟩, ⟨by repeat (first | (with_reducible first | exact HB.out | apply qac | apply qab | apply qag | refine qah ?_ qdm.out | refine qah ?_ qgG.out) | exact HB.out)⟩⟩
      case round =>
       clear H'; (try clear c1); (try clear p1); (try clear q1); (try clear hx1); (try clear c2); (try clear p2); (try clear c5); (try clear c5b0); (try clear c6); (try clear c6b0); (try clear p6); (try clear c7); (try clear c7b0); (try clear c8); (try clear c10); (try clear p10); (try clear q10); (try clear hx10); (try clear c13); (try clear c17); (try clear c19); (try clear c20); (try clear c22); (try clear c25); (try clear c27); (try clear qeJ); (try clear qeK); (try clear qeL); (try clear qgx); (try clear qgy); (try clear qgz); (try clear qfU); (try clear qfV); (try clear qfW); (try clear qia); (try clear qib); (try clear qeM); (try clear qeN); (try clear qeO); (try clear qgA); (try clear qgB); (try clear qgC); (try clear qfX); (try clear qfY); (try clear qfZ); (try clear qic); (try clear qid); (try clear qet); (try clear qeu); (try clear qev); (try clear p1); (try clear p10); (try clear p103); (try clear p2); (try clear p6); (try clear q1); (try clear q10); (try clear q103); obtain ⟨qbm, qb0, qb5, rfl, HA, HK3, qbW, qda, HB⟩ := hrel
       cases gk with
       | zero => exact absurd HA.out (by simp [qaY.l1])
       | succ k3 =>
        have H := HA.out; clear HA; simp only [qaY.l1] at H
        by_cases c30 : qbm < (l0.length : Int)
        ·
         rw [if_pos c30] at H; have c30b0 : decide (qbm < (l0.length : Int)) = true := decide_eq_true c30; clear c30
         by_cases c31 : 0 ≤ qbm
         ·
          rw [if_pos c31] at H; have c31b0 : decide (0 ≤ qbm) = true := decide_eq_true c31; clear c31
          by_cases c32 : qbm < (l0.length : Int)
          ·
           rw [if_pos c32] at H; have c32b0 : decide (qbm < (l0.length : Int)) = true := decide_eq_true c32; clear c32; have HC33 := qaa.mk H; clear H; have p110 : 0 ≤ (qbm : Int) := of_decide_eq_true (by first | (with_reducible assumption) | assumption); have q110 : qbm < (l0.length : Int) := of_decide_eq_true (by first | (with_reducible assumption) | assumption); obtain ⟨qDH, e110, qkz, qkA, qkB⟩ := qk1 HR0.out qbm p110 q110; cases e110; replace qkz := (HB.out.cell (World.block_lt_of_cell? w _ qkz)).trans qkz; replace qkA := (HB.out.cell (World.block_lt_of_cell? w _ qkA)).trans qkA; replace qkB := (HB.out.cell (World.block_lt_of_cell? w _ qkB)).trans qkB; replace p110 := eq_true p110; replace q110 := eq_true q110
           go_upto_region 15 with (first | ((with_reducible refine qaN (N := 13) rfl ?_); refine qba ?hg (N := 13) ?hd (cs := #[.int .i64 0, .int .i64 0, .int .i64 0]) (t := 68) ?hr ?_; (case hd => rfl); (case hg => rfl); (case hr => first | (go_simp; done) | (go_simp; rfl)); intro qdn hg w34 hbox hb; have n0_ := qaa.mk (qam (g := qcT) (o := .cells #[.int .i64 0, .int .i64 0] 25 (0, 0)) (by (with_reducible repeat (first | refine qae ?_ _ | refine qai ?_ | refine qad ?_ _)); exact qbW.out) hb); have n1_ := qaa.mk (qam (g := qeg) (o := .cells #[.int .i64 qb0, .int .i64 qb5] 25 (0, 0)) (by (with_reducible repeat (first | refine qae ?_ _ | refine qai ?_ | refine qad ?_ _)); exact qda.out) hb); have n2_ := qaa.mk (qap (by repeat (first | (with_reducible first | exact HB.out | apply qac | apply qab | apply qag | refine qah ?_ qdm.out | refine qah ?_ qgG.out) | exact HB.out)) hb); have n3_ := qaa.mk (hbox); have n4_ := qaa.mk ((by rw [hg]; exact (qal (by repeat (first | (with_reducible first | exact HB.out | apply qac | apply qab | apply qag | refine qah ?_ qdm.out | refine qah ?_ qgG.out) | exact HB.out))) : w.heap.size ≤ qdn)); have n5_ := qaa.mk ((by rw [hg]; exact (qal (by repeat (first | (with_reducible first | exact HB.out | apply qac | apply qab | apply qag | refine qah ?_ qdm.out | refine qah ?_ qgG.out) | exact HB.out))) : w.heap.size ≤ qdn)); have n6_ := qaa.mk ((by rw [hg]; exact Nat.ne_of_lt (qaL (g := qcT) (o := .cells #[.int .i64 0, .int .i64 0] 25 (0, 0)) (by (with_reducible repeat (first | refine qae ?_ _ | refine qai ?_ | refine qad ?_ _)); exact qbW.out)) : qcT ≠ qdn)); have n7_ := qaa.mk ((by rw [hg]; exact Nat.ne_of_gt (qaL (g := qcT) (o := .cells #[.int .i64 0, .int .i64 0] 25 (0, 0)) (by (with_reducible repeat (first | refine qae ?_ _ | refine qai ?_ | refine qad ?_ _)); exact qbW.out)) : qdn ≠ qcT)); have n8_ := qaa.mk ((by rw [hg]; exact Nat.ne_of_lt (qaL (g := qeg) (o := .cells #[.int .i64 qb0, .int .i64 qb5] 25 (0, 0)) (by (with_reducible repeat (first | refine qae ?_ _ | refine qai ?_ | refine qad ?_ _)); exact qda.out)) : qeg ≠ qdn)); have n9_ := qaa.mk ((by rw [hg]; exact Nat.ne_of_gt (qaL (g := qeg) (o := .cells #[.int .i64 qb0, .int .i64 qb5] 25 (0, 0)) (by (with_reducible repeat (first | refine qae ?_ _ | refine qai ?_ | refine qad ?_ _)); exact qda.out)) : qdn ≠ qeg)); clear qbW; clear qda; clear HB; have qbW := n0_; have qda := n1_; have HB := n2_; have qb3 := n3_; have qDI := n4_; have qiP := n5_; have qdD := n6_; have qfs := n7_; have qdE := n8_; have qft := n9_; clear n0_ n1_ n2_ n3_ n4_ n5_ n6_ n7_ n8_ n9_; clear hb hbox hg; have qvs := qfs.out; have qvt := qdD.out; have qvu := qft.out; have qvv := qdE.out; have qtx : w34.cell? ⟨qdn, 0, none⟩ = some (.int .i64 0) := (qaf qb3.out 0).trans rfl; have qty : w34.cell? ⟨qdn, 1, none⟩ = some (.int .i64 0) := (qaf qb3.out 1).trans rfl; have qtz : w34.cell? ⟨qdn, 2, none⟩ = some (.int .i64 0) := (qaf qb3.out 2).trans rfl; have qtA := qaj qb3.out 0; have qtB := qaj qb3.out 1; have qtC := qaj qb3.out 2))
           (try simp only [Act.put, List.setIfInBounds_toArray, List.set_cons_zero, List.set_cons_succ])
           go_cut [65] (fun v65 wc => ∃ (kq : Nat) (qlF : Bool), v65 = .bool qlF ∧ qaa (qaY.j3 kq a1 a2 l0 (l0.length : Int) qbm qlF qb0 qb5 ((qa3 l0 qbm).f0) ((qa3 l0 qbm).f1.f0) ((qa3 l0 qbm).f1.f1) = some (r1, r2, r3)) ∧ qaa (kq ≤ k3) ∧ qaa (wc.heap[qcT]? = some (.cells #[.int .i64 0, .int .i64 0] 25 (0, 0))) ∧ qaa (wc.heap[qeg]? = some (.cells #[.int .i64 qb0, .int .i64 qb5] 25 (0, 0))) ∧ qaa (wc.heap[qdn]? = some (.cells #[.int .i64 ((qa3 l0 qbm).f0), .int .i64 ((qa3 l0 qbm).f1.f0), .int .i64 ((qa3 l0 qbm).f1.f1)] 68 (0, 0))) ∧ qaa (Below w.heap.size w wc))
           case first =>
            have H := HC33.out; clear HC33
            by_cases c38 : a1 ≤ ((qa3 l0 qbm).f1.f0)
            ·
             rw [if_pos c38] at H; have c38b0 : decide (a1 ≤ ((qa3 l0 qbm).f1.f0)) = true := decide_eq_true c38; clear c38
             (first | rw [c38b0] | (simp only [qaQ, qaU]; rw [c38b0]) | skip)
             have H' := qaa.mk H; clear H; have qrk := qfs.out; have qrl := qdD.out; have qvw := qft.out; have qvx := qdE.out; have qoN : w34.cell? ⟨qdn, 0, none⟩ = some (.int .i64 0) := (qaf qb3.out 0).trans rfl; have qoO : w34.cell? ⟨qdn, 1, none⟩ = some (.int .i64 0) := (qaf qb3.out 1).trans rfl; have qoP : w34.cell? ⟨qdn, 2, none⟩ = some (.int .i64 0) := (qaf qb3.out 2).trans rfl; have qoQ := qaj qb3.out 0; have qoR := qaj qb3.out 1; have qoS := qaj qb3.out 2
             go_wp2
             go_meet
             case rel => exact ⟨_, (decide (((qa3 l0 qbm).f1.f1) ≤ a2)), (by first | rfl | (simp; done) | (simp [*]; done)), H', ⟨by have := HK1.out; have := HJ22.out; have := HK3.out; first | omega | exact Nat.le_refl _⟩, ⟨by (with_reducible repeat (first | refine qae ?_ _ | refine qai ?_ | refine qad ?_ _)); refine qao ?_ qdD.out _; (with_reducible repeat (first | refine qae ?_ _ | refine qai ?_ | refine qad ?_ _)); refine qao ?_ qdD.out _; (with_reducible repeat (first | refine qae ?_ _ | refine qai ?_ | refine qad ?_ _)); refine qao ?_ qdD.out _; (with_reducible repeat (first | refine qae ?_ _ | refine qai ?_ | refine qad ?_ _)); exact qbW.out⟩, ⟨by (with_reducible repeat (first | refine qae ?_ _ | refine qai ?_ | refine qad ?_ _)); refine qao ?_ qdE.out _; (with_reducible repeat (first | refine qae ?_ _ | refine qai ?_ | refine qad ?_ _)); refine qao ?_ qdE.out _; (with_reducible repeat (first | refine qae ?_ _ | refine qai ?_ | refine qad ?_ _)); refine qao ?_ qdE.out _; (with_reducible repeat (first | refine qae ?_ _ | refine qai ?_ | refine qad ?_ _)); exact qda.out⟩, ⟨by (with_reducible repeat (first | refine qae ?_ _ | refine qai ?_ | refine qad ?_ _)); refine qaE (cs := #[.int .i64 ((qa3 l0 qbm).f0), .int .i64 ((qa3 l0 qbm).f1.f0), .int .i64 0]) ?_ 2 _ rfl; (with_reducible repeat (first | refine qae ?_ _ | refine qai ?_ | refine qad ?_ _)); refine qaE (cs := #[.int .i64 ((qa3 l0 qbm).f0), .int .i64 0, .int .i64 0]) ?_ 1 _ rfl; (with_reducible repeat (first | refine qae ?_ _ | refine qai ?_ | refine qad ?_ _)); refine qaE (cs := #[.int .i64 0, .int .i64 0, .int .i64 0]) ?_ 0 _ rfl; (with_reducible repeat (first | refine qae ?_ _ | refine qai ?_ | refine qad ?_ _)); exact qb3.out⟩, ⟨by repeat (first | (with_reducible first | exact HB.out | apply qac | apply qab | apply qag | refine qah ?_ qdm.out | refine qah ?_ qgG.out | refine qah ?_ qiP.out) | exact HB.out)⟩⟩
            rw [if_neg c38] at H; have c38b0 : decide (a1 ≤ ((qa3 l0 qbm).f1.f0)) = false := decide_eq_false c38; clear c38
            (first | rw [c38b0] | (simp only [qaQ, qaU]; rw [c38b0]) | skip)
            have H' := qaa.mk H; clear H; have qvy := qfs.out; have qvz := qdD.out; have qDJ := qft.out; have qDK := qdE.out; have qtD : w34.cell? ⟨qdn, 0, none⟩ = some (.int .i64 0) := (qaf qb3.out 0).trans rfl; have qtE : w34.cell? ⟨qdn, 1, none⟩ = some (.int .i64 0) := (qaf qb3.out 1).trans rfl; have qtF : w34.cell? ⟨qdn, 2, none⟩ = some (.int .i64 0) := (qaf qb3.out 2).trans rfl; have qtG := qaj qb3.out 0; have qtH := qaj qb3.out 1; have qtI := qaj qb3.out 2
            go_wp2
            go_meet
            case rel => exact ⟨_, (false), (by first | rfl | (simp; done) | (simp [*]; done)), H', ⟨by have := HK1.out; have := HJ22.out; have := HK3.out; first | omega | exact Nat.le_refl _⟩, ⟨by (with_reducible repeat (first | refine qae ?_ _ | refine qai ?_ | refine qad ?_ _)); refine qao ?_ qdD.out _; (with_reducible repeat (first | refine qae ?_ _ | refine qai ?_ | refine qad ?_ _)); refine qao ?_ qdD.out _; (with_reducible repeat (first | refine qae ?_ _ | refine qai ?_ | refine qad ?_ _)); refine qao ?_ qdD.out _; (with_reducible repeat (first | refine qae ?_ _ | refine qai ?_ | refine qad ?_ _)); exact qbW.out⟩, ⟨by (with_reducible repeat (first | refine qae ?_ _ | refine qai ?_ | refine qad ?_ _)); refine qao ?_ qdE.out _; (with_reducible repeat (first | refine qae ?_ _ | refine qai ?_ | refine qad ?_ _)); refine qao ?_ qdE.out _; (with_reducible repeat (first | refine qae ?_ _ | refine qai ?_ | refine qad ?_ _)); refine qao ?_ qdE.out _; (with_reducible repeat (first | refine qae ?_ _ | refine qai ?_ | refine qad ?_ _)); exact qda.out⟩, ⟨by (with_reducible repeat (first | refine qae ?_ _ | refine qai ?_ | refine qad ?_ _)); refine qaE (cs := #[.int .i64 ((qa3 l0 qbm).f0), .int .i64 ((qa3 l0 qbm).f1.f0), .int .i64 0]) ?_ 2 _ rfl; (with_reducible repeat (first | refine qae ?_ _ | refine qai ?_ | refine qad ?_ _)); refine qaE (cs := #[.int .i64 ((qa3 l0 qbm).f0), .int .i64 0, .int .i64 0]) ?_ 1 _ rfl; (with_reducible repeat (first | refine qae ?_ _ | refine qai ?_ | refine qad ?_ _)); refine qaE (cs := #[.int .i64 0, .int .i64 0, .int .i64 0]) ?_ 0 _ rfl; (with_reducible repeat (first | refine qae ?_ _ | refine qai ?_ | refine qad ?_ _)); exact qb3.out⟩, ⟨by repeat (first | (with_reducible first | exact HB.out | apply qac | apply qab | apply qag | refine qah ?_ qdm.out | refine qah ?_ qgG.out | refine qah ?_ qiP.out) | exact HB.out)⟩⟩
           case rest =>
            clear HC33; (try clear c1); (try clear p1); (try clear q1); (try clear hx1); (try clear c2); (try clear p2); (try clear c3); (try clear c4); (try clear c5); (try clear c5b0); (try clear c6); (try clear c6b0); (try clear p6); (try clear c7); (try clear c7b0); (try clear c8); (try clear c10); (try clear p10); (try clear q10); (try clear hx10); (try clear p11); (try clear q11); (try clear hx11); (try clear c13); (try clear c17); (try clear c19); (try clear c20); (try clear c22); (try clear c25); (try clear c27); (try clear c30); (try clear c30b0); (try clear c31); (try clear c31b0); (try clear c32); (try clear c32b0); (try clear c35); (try clear c36); (try clear c38); (try clear c38b0); (try clear c39); (try clear c40); (try clear c42); (try clear c43); (try clear qeJ); (try clear qeK); (try clear qeL); (try clear qgx); (try clear qgy); (try clear qgz); (try clear qfU); (try clear qfV); (try clear qfW); (try clear qia); (try clear qib); (try clear qtx); (try clear qty); (try clear qtz); (try clear qoN); (try clear qoO); (try clear qoP); (try clear qtD); (try clear qtE); (try clear qtF); (try clear qeM); (try clear qeN); (try clear qeO); (try clear qgA); (try clear qgB); (try clear qgC); (try clear qfX); (try clear qfY); (try clear qfZ); (try clear qic); (try clear qid); (try clear qtA); (try clear qtB); (try clear qtC); (try clear qoQ); (try clear qoR); (try clear qoS); (try clear qtG); (try clear qtH); (try clear qtI); (try clear qet); (try clear qeu); (try clear qev); (try clear qkz); (try clear qkA); (try clear qkB); (try clear p1); (try clear p10); (try clear p103); (try clear p110); (try clear p2); (try clear p6); (try clear q1); (try clear q10); (try clear q103); (try clear q110); obtain ⟨kq, qlF, rfl, HA, HJ32, qbW, qda, qb3, HB⟩ := hcut
            cases kq with
            | zero => exact absurd HA.out (by simp [qaY.j3])
            | succ kj32 =>
             have H := HA.out; clear HA; simp only [qaY.j3] at H
             by_cases c45 : qlF = true
             ·
              subst c45
              have H1 : (if a1 ≤ ((qa3 l0 qbm).f1.f1) then (if ((qa3 l0 qbm).f1.f0) ≤ a2 then (qaY.l1 kj32 a1 a2 l0 (l0.length : Int) (wrap64 (qbm + 1)) (wrap64 (qb0 + ((qa3 l0 qbm).f0))) (wrap64 (qb5 + ((qa3 l0 qbm).f0)))) else (qaY.l1 kj32 a1 a2 l0 (l0.length : Int) (wrap64 (qbm + 1)) (wrap64 (qb0 + ((qa3 l0 qbm).f0))) qb5)) else (qaY.l1 kj32 a1 a2 l0 (l0.length : Int) (wrap64 (qbm + 1)) (wrap64 (qb0 + ((qa3 l0 qbm).f0))) qb5)) = some (r1, r2, r3) := by rw [if_pos rfl] at H; exact H
              clear H; have H := H1; clear H1
              by_cases c46 : a1 ≤ ((qa3 l0 qbm).f1.f1)
              ·
               rw [if_pos c46] at H; have c46b0 : decide (a1 ≤ ((qa3 l0 qbm).f1.f1)) = true := decide_eq_true c46; clear c46
               by_cases c47 : ((qa3 l0 qbm).f1.f0) ≤ a2
               ·
                rw [if_pos c47] at H; have c47b0 : decide (((qa3 l0 qbm).f1.f0) ≤ a2) = true := decide_eq_true c47; clear c47; have H' := qaa.mk H; clear H; have qvA := qh0.out; have qvB := qeB.out; have qvC := qdE.out; have qvD := qft.out; have qtJ : wc.cell? ⟨qeg, 0, none⟩ = some (.int .i64 qb0) := (qaf qda.out 0).trans rfl; have qtK : wc.cell? ⟨qeg, 1, none⟩ = some (.int .i64 qb5) := (qaf qda.out 1).trans rfl; have qtL := qaj qda.out 0; have qtM := qaj qda.out 1; have qDL := qfs.out; have qDM := qdD.out; have qyg : wc.cell? ⟨qdn, 0, none⟩ = some (.int .i64 ((qa3 l0 qbm).f0)) := (qaf qb3.out 0).trans rfl; have qyh : wc.cell? ⟨qdn, 1, none⟩ = some (.int .i64 ((qa3 l0 qbm).f1.f0)) := (qaf qb3.out 1).trans rfl; have qyi : wc.cell? ⟨qdn, 2, none⟩ = some (.int .i64 ((qa3 l0 qbm).f1.f1)) := (qaf qb3.out 2).trans rfl; have qyj := qaj qb3.out 0; have qyk := qaj qb3.out 1; have qyl := qaj qb3.out 2
                go_wp2
                go_roundg kj32
                case measure => have := HK1.out; have := HJ22.out; have := HK3.out; have := HJ32.out; omega
                case rel => exact ⟨(wrap64 (qbm + 1)), (wrap64 (qb0 + ((qa3 l0 qbm).f0))), (wrap64 (qb5 + ((qa3 l0 qbm).f0))), (by first | rfl | (simp; done) | (simp [*]; done)), H', ⟨by have := HK1.out; have := HJ22.out; have := HK3.out; have := HJ32.out; omega⟩, ⟨by (with_reducible repeat (first | refine qae ?_ _ | refine qai ?_ | refine qad ?_ _)); refine qao ?_ qeB.out _; (with_reducible repeat (first | refine qae ?_ _ | refine qai ?_ | refine qad ?_ _)); refine qao ?_ qeB.out _; (with_reducible repeat (first | refine qae ?_ _ | refine qai ?_ | refine qad ?_ _)); exact qbW.out⟩, ⟨by (with_reducible repeat (first | refine qae ?_ _ | refine qai ?_ | refine qad ?_ _)); refine qaE (cs := #[.int .i64 (wrap64 (qb0 + ((qa3 l0 qbm).f0))), .int .i64 qb5]) ?_ 1 _ rfl; (with_reducible repeat (first | refine qae ?_ _ | refine qai ?_ | refine qad ?_ _)); refine qaE (cs := #[.int .i64 qb0, .int .i64 qb5]) ?_ 0 _ rfl; (with_reducible repeat (first | refine qae ?_ _ | refine qai ?_ | refine qad ?_ _)); exact qda.out⟩, ⟨by repeat (first | (with_reducible first | exact HB.out | apply qac | apply qab | apply qag | refine qah ?_ qdm.out | refine qah ?_ qgG.out | refine qah ?_ qiP.out) | exact HB.out)⟩⟩
               rw [if_neg c47] at H; have c47b0 : decide (((qa3 l0 qbm).f1.f0) ≤ a2) = false := decide_eq_false c47; clear c47; have H' := qaa.mk H; clear H; have qDN := qh0.out; have qDO := qeB.out; have qDP := qdE.out; have qDQ := qft.out; have qym : wc.cell? ⟨qeg, 0, none⟩ = some (.int .i64 qb0) := (qaf qda.out 0).trans rfl; have qyn : wc.cell? ⟨qeg, 1, none⟩ = some (.int .i64 qb5) := (qaf qda.out 1).trans rfl; have qyo := qaj qda.out 0; have qyp := qaj qda.out 1; have qDR := qfs.out; have qDS := qdD.out; have qyq : wc.cell? ⟨qdn, 0, none⟩ = some (.int .i64 ((qa3 l0 qbm).f0)) := (qaf qb3.out 0).trans rfl; have qyr : wc.cell? ⟨qdn, 1, none⟩ = some (.int .i64 ((qa3 l0 qbm).f1.f0)) := (qaf qb3.out 1).trans rfl; have qys : wc.cell? ⟨qdn, 2, none⟩ = some (.int .i64 ((qa3 l0 qbm).f1.f1)) := (qaf qb3.out 2).trans rfl; have qyt := qaj qb3.out 0; have qyu := qaj qb3.out 1; have qyv := qaj qb3.out 2
               go_wp2
               go_roundg kj32
               case measure => have := HK1.out; have := HJ22.out; have := HK3.out; have := HJ32.out; omega
               case rel => exact ⟨(wrap64 (qbm + 1)), (wrap64 (qb0 + ((qa3 l0 qbm).f0))), (qb5), (by first | rfl | (simp; done) | (simp [*]; done)), H', ⟨by have := HK1.out; have := HJ22.out; have := HK3.out; have := HJ32.out; omega⟩, ⟨by (with_reducible repeat (first | refine qae ?_ _ | refine qai ?_ | refine qad ?_ _)); refine qao ?_ qeB.out _; (with_reducible repeat (first | refine qae ?_ _ | refine qai ?_ | refine qad ?_ _)); exact qbW.out⟩, ⟨by (with_reducible repeat (first | refine qae ?_ _ | refine qai ?_ | refine qad ?_ _)); refine qaE (cs := #[.int .i64 qb0, .int .i64 qb5]) ?_ 0 _ rfl; (with_reducible repeat (first | refine qae ?_ _ | refine qai ?_ | refine qad ?_ _)); exact qda.out⟩, ⟨by repeat (first | (with_reducible first | exact HB.out | apply qac | apply qab | apply qag | refine qah ?_ qdm.out | refine qah ?_ qgG.out | refine qah ?_ qiP.out) | exact HB.out)⟩⟩
              rw [if_neg c46] at H; have c46b0 : decide (a1 ≤ ((qa3 l0 qbm).f1.f1)) = false := decide_eq_false c46; clear c46; have H' := qaa.mk H; clear H; have qvE := qh0.out; have qvF := qeB.out; have qvG := qdE.out; have qvH := qft.out; have qyw : wc.cell? ⟨qeg, 0, none⟩ = some (.int .i64 qb0) := (qaf qda.out 0).trans rfl; have qyx : wc.cell? ⟨qeg, 1, none⟩ = some (.int .i64 qb5) := (qaf qda.out 1).trans rfl; have qyy := qaj qda.out 0; have qyz := qaj qda.out 1; have qDT := qfs.out; have qDU := qdD.out; have qyA : wc.cell? ⟨qdn, 0, none⟩ = some (.int .i64 ((qa3 l0 qbm).f0)) := (qaf qb3.out 0).trans rfl; have qyB : wc.cell? ⟨qdn, 1, none⟩ = some (.int .i64 ((qa3 l0 qbm).f1.f0)) := (qaf qb3.out 1).trans rfl; have qyC : wc.cell? ⟨qdn, 2, none⟩ = some (.int .i64 ((qa3 l0 qbm).f1.f1)) := (qaf qb3.out 2).trans rfl; have qyD := qaj qb3.out 0; have qyE := qaj qb3.out 1; have qyF := qaj qb3.out 2
              go_wp2
              go_roundg kj32
              case measure => have := HK1.out; have := HJ22.out; have := HK3.out; have := HJ32.out; omega
              case rel => exact ⟨(wrap64 (qbm + 1)), (wrap64 (qb0 + ((qa3 l0 qbm).f0))), (qb5), (by first | rfl | (simp; done) | (simp [*]; done)), H', ⟨by have := HK1.out; have := HJ22.out; have := HK3.out; have := HJ32.out; omega⟩, ⟨by (with_reducible repeat (first | refine qae ?_ _ | refine qai ?_ | refine qad ?_ _)); refine qao ?_ qeB.out _; (with_reducible repeat (first | refine qae ?_ _ | refine qai ?_ | refine qad ?_ _)); exact qbW.out⟩, ⟨by (with_reducible repeat (first | refine qae ?_ _ | refine qai ?_ | refine qad ?_ _)); refine qaE (cs := #[.int .i64 qb0, .int .i64 qb5]) ?_ 0 _ rfl; (with_reducible repeat (first | refine qae ?_ _ | refine qai ?_ | refine qad ?_ _)); exact qda.out⟩, ⟨by repeat (first | (with_reducible first | exact HB.out | apply qac | apply qab | apply qag | refine qah ?_ qdm.out | refine qah ?_ qgG.out | refine qah ?_ qiP.out) | exact HB.out)⟩⟩
             replace c45 := Bool.eq_false_iff.mpr c45; subst c45
             have H1 : (if a1 ≤ ((qa3 l0 qbm).f1.f1) then (if ((qa3 l0 qbm).f1.f0) ≤ a2 then (qaY.l1 kj32 a1 a2 l0 (l0.length : Int) (wrap64 (qbm + 1)) qb0 (wrap64 (qb5 + ((qa3 l0 qbm).f0)))) else (qaY.l1 kj32 a1 a2 l0 (l0.length : Int) (wrap64 (qbm + 1)) qb0 qb5)) else (qaY.l1 kj32 a1 a2 l0 (l0.length : Int) (wrap64 (qbm + 1)) qb0 qb5)) = some (r1, r2, r3) := by rw [if_neg (show ¬ (false = true) by decide)] at H; exact H
             clear H; have H := H1; clear H1
             by_cases c63 : a1 ≤ ((qa3 l0 qbm).f1.f1)
             ·
              rw [if_pos c63] at H; have c63b0 : decide (a1 ≤ ((qa3 l0 qbm).f1.f1)) = true := decide_eq_true c63; clear c63
              by_cases c64 : ((qa3 l0 qbm).f1.f0) ≤ a2
              ·
               rw [if_pos c64] at H; have c64b0 : decide (((qa3 l0 qbm).f1.f0) ≤ a2) = true := decide_eq_true c64; clear c64; have H' := qaa.mk H; clear H; have qvI := qfs.out; have qvJ := qdD.out; have qDV := qft.out; have qDW := qdE.out; have qyG : wc.cell? ⟨qdn, 0, none⟩ = some (.int .i64 ((qa3 l0 qbm).f0)) := (qaf qb3.out 0).trans rfl; have qyH : wc.cell? ⟨qdn, 1, none⟩ = some (.int .i64 ((qa3 l0 qbm).f1.f0)) := (qaf qb3.out 1).trans rfl; have qyI : wc.cell? ⟨qdn, 2, none⟩ = some (.int .i64 ((qa3 l0 qbm).f1.f1)) := (qaf qb3.out 2).trans rfl; have qyJ := qaj qb3.out 0; have qyK := qaj qb3.out 1; have qyL := qaj qb3.out 2; have qDX := qh0.out; have qDY := qeB.out; have qyM : wc.cell? ⟨qeg, 0, none⟩ = some (.int .i64 qb0) := (qaf qda.out 0).trans rfl; have qyN : wc.cell? ⟨qeg, 1, none⟩ = some (.int .i64 qb5) := (qaf qda.out 1).trans rfl; have qyO := qaj qda.out 0; have qyP := qaj qda.out 1
               go_wp2
               go_roundg kj32
               case measure => have := HK1.out; have := HJ22.out; have := HK3.out; have := HJ32.out; omega
               case rel => exact ⟨(wrap64 (qbm + 1)), (qb0), (wrap64 (qb5 + ((qa3 l0 qbm).f0))), (by first | rfl | (simp; done) | (simp [*]; done)), H', ⟨by have := HK1.out; have := HJ22.out; have := HK3.out; have := HJ32.out; omega⟩, ⟨by (with_reducible repeat (first | refine qae ?_ _ | refine qai ?_ | refine qad ?_ _)); refine qao ?_ qeB.out _; (with_reducible repeat (first | refine qae ?_ _ | refine qai ?_ | refine qad ?_ _)); exact qbW.out⟩, ⟨by (with_reducible repeat (first | refine qae ?_ _ | refine qai ?_ | refine qad ?_ _)); refine qaE (cs := #[.int .i64 qb0, .int .i64 qb5]) ?_ 1 _ rfl; (with_reducible repeat (first | refine qae ?_ _ | refine qai ?_ | refine qad ?_ _)); exact qda.out⟩, ⟨by repeat (first | (with_reducible first | exact HB.out | apply qac | apply qab | apply qag | refine qah ?_ qdm.out | refine qah ?_ qgG.out | refine qah ?_ qiP.out) | exact HB.out)⟩⟩
              rw [if_neg c64] at H; have c64b0 : decide (((qa3 l0 qbm).f1.f0) ≤ a2) = false := decide_eq_false c64; clear c64; have H' := qaa.mk H; clear H; have qvK := qfs.out; have qvL := qdD.out; have qvM := qft.out; have qvN := qdE.out; have qyQ : wc.cell? ⟨qdn, 0, none⟩ = some (.int .i64 ((qa3 l0 qbm).f0)) := (qaf qb3.out 0).trans rfl; have qyR : wc.cell? ⟨qdn, 1, none⟩ = some (.int .i64 ((qa3 l0 qbm).f1.f0)) := (qaf qb3.out 1).trans rfl; have qyS : wc.cell? ⟨qdn, 2, none⟩ = some (.int .i64 ((qa3 l0 qbm).f1.f1)) := (qaf qb3.out 2).trans rfl; have qyT := qaj qb3.out 0; have qyU := qaj qb3.out 1; have qyV := qaj qb3.out 2
              go_wp2
              go_roundg kj32
              case measure => have := HK1.out; have := HJ22.out; have := HK3.out; have := HJ32.out; omega
              case rel => exact ⟨(wrap64 (qbm + 1)), (qb0), (qb5), (by first | rfl | (simp; done) | (simp [*]; done)), H', ⟨by have := HK1.out; have := HJ22.out; have := HK3.out; have := HJ32.out; omega⟩, ⟨by (with_reducible repeat (first | refine qae ?_ _ | refine qai ?_ | refine qad ?_ _)); exact qbW.out⟩, ⟨by (with_reducible repeat (first | refine qae ?_ _ | refine qai ?_ | refine qad ?_ _)); exact qda.out⟩, ⟨by repeat (first | (with_reducible first | exact HB.out | apply qac | apply qab | apply qag | refine qah ?_ qdm.out | refine qah ?_ qgG.out | refine qah ?_ qiP.out) | exact HB.out)⟩⟩
             rw [if_neg c63] at H; have c63b0 : decide (a1 ≤ ((qa3 l0 qbm).f1.f1)) = false := decide_eq_false c63; clear c63; have H' := qaa.mk H; clear H; have qDZ := qfs.out; have qD0 := qdD.out; have qD1 := qft.out; have qD2 := qdE.out; have qtN : wc.cell? ⟨qdn, 0, none⟩ = some (.int .i64 ((qa3 l0 qbm).f0)) := (qaf qb3.out 0).trans rfl; have qtO : wc.cell? ⟨qdn, 1, none⟩ = some (.int .i64 ((qa3 l0 qbm).f1.f0)) := (qaf qb3.out 1).trans rfl; have qtP : wc.cell? ⟨qdn, 2, none⟩ = some (.int .i64 ((qa3 l0 qbm).f1.f1)) := (qaf qb3.out 2).trans rfl; have qtQ := qaj qb3.out 0; have qtR := qaj qb3.out 1; have qtS := qaj qb3.out 2
             go_wp2
             go_roundg kj32
             case measure => have := HK1.out; have := HJ22.out; have := HK3.out; have := HJ32.out; omega
             case rel => exact ⟨(wrap64 (qbm + 1)), (qb0), (qb5), (by first | rfl | (simp; done) | (simp [*]; done)), H', ⟨by have := HK1.out; have := HJ22.out; have := HK3.out; have := HJ32.out; omega⟩, ⟨by (with_reducible repeat (first | refine qae ?_ _ | refine qai ?_ | refine qad ?_ _)); exact qbW.out⟩, ⟨by (with_reducible repeat (first | refine qae ?_ _ | refine qai ?_ | refine qad ?_ _)); exact qda.out⟩, ⟨by repeat (first | (with_reducible first | exact HB.out | apply qac | apply qab | apply qag | refine qah ?_ qdm.out | refine qah ?_ qgG.out | refine qah ?_ qiP.out) | exact HB.out)⟩⟩
          rw [if_neg c32] at H
          exact absurd H (by simp)
         rw [if_neg c31] at H
         exact absurd H (by simp)
        rw [if_neg c30] at H; have c30b0 : decide (qbm < (l0.length : Int)) = false := decide_eq_false c30; clear c30; simp only [Option.some.injEq, Prod.mk.injEq] at H; obtain ⟨rfl, rfl, rfl⟩ := H; have qD3 := qh0.out; have qD4 := qeB.out; have qtT : wr.cell? ⟨qeg, 0, none⟩ = some (.int .i64 qb0) := (qaf qda.out 0).trans rfl; have qyW : wr.cell? ⟨qeg, 1, none⟩ = some (.int .i64 qb5) := (qaf qda.out 1).trans rfl; have qtU := qaj qda.out 0; have qyX := qaj qda.out 1; have qyY : wr.cell? ⟨qcT, 0, none⟩ = some (.int .i64 0) := (qaf qbW.out 0).trans rfl; have qyZ : wr.cell? ⟨qcT, 1, none⟩ = some (.int .i64 0) := (qaf qbW.out 1).trans rfl; have qy0 := qaj qbW.out 0; have qy1 := qaj qbW.out 1
        go_wp2
        refine bodyPost_ret (qjU rfl _ _ qcT 25 #[.int .i64 qb0, .int .i64 qb5] (0, 0) _ rfl (by (with_reducible repeat (first | refine qae ?_ _ | refine qai ?_ | refine qad ?_ _)); refine qaE (cs := #[.int .i64 qb0, .int .i64 0]) ?_ 1 _ rfl; (with_reducible repeat (first | refine qae ?_ _ | refine qai ?_ | refine qad ?_ _)); refine qaE (cs := #[.int .i64 0, .int .i64 0]) ?_ 0 _ rfl; (with_reducible repeat (first | refine qae ?_ _ | refine qai ?_ | refine qad ?_ _)); exact qbW.out) Try.underlying25 rfl (by kernel_rfl)) rfl ?_
        exact ⟨by first | rfl | (simp [qaC, qaB] <;> rfl) | (simp [*, qaC, qaB] <;> rfl), by repeat (first | (with_reducible first | exact HB.out | apply qac | apply qab | apply qag | refine qah ?_ qdm.out | refine qah ?_ qgG.out) | exact HB.out)⟩
   replace c22 := Bool.eq_false_iff.mpr c22
   subst c22
   have H1 : (some (0, 0, 90)) = some (r1, r2, r3) := by rw [if_neg (show ¬ (false = true) by decide)] at H; exact H
   clear H
   have H := H1
   clear H1
   simp only [Option.some.injEq, Prod.mk.injEq] at H
   obtain ⟨rfl, rfl, rfl⟩ := H
   have qy2 : wr.cell? ⟨qcT, 0, none⟩ = some (.int .i64 0) := (qaf qbW.out 0).trans rfl
   have qy3 : wr.cell? ⟨qcT, 1, none⟩ = some (.int .i64 0) := (qaf qbW.out 1).trans rfl
   have qy4 := qaj qbW.out 0
   have qy5 := qaj qbW.out 1
   go_wp2
   refine bodyPost_ret (qjU rfl _ _ qcT 25 #[.int .i64 0, .int .i64 0] (0, 0) _ rfl (by (with_reducible repeat (first | refine qae ?_ _ | refine qai ?_ | refine qad ?_ _)); refine qaE (cs := #[.int .i64 0, .int .i64 0]) ?_ 1 _ rfl; (with_reducible repeat (first | refine qae ?_ _ | refine qai ?_ | refine qad ?_ _)); refine qaE (cs := #[.int .i64 0, .int .i64 0]) ?_ 0 _ rfl; (with_reducible repeat (first | refine qae ?_ _ | refine qai ?_ | refine qad ?_ _)); exact qbW.out) Try.underlying25 rfl (by kernel_rfl)) rfl ?_
   exact ⟨by first | rfl | (simp [qaC, qaB] <;> rfl) | (simp [*, qaC, qaB] <;> rfl), by repeat (first | (with_reducible first | exact HB.out | apply qac | apply qab | apply qag | refine qah ?_ qdm.out) | exact HB.out)⟩
end Go.Proofs.Ytmhomdohhihlcaa.P
namespace Go.Proofs.Ytmhomdohhihlcaa.P
open Go.RowKit Go.Proofs.YtmhomdohhihlcaaW.PrintWords Go.Proofs.YtmhomdohhihlcaaW.PrintLast Go.Proofs.YtmhomdohhihlcaaW.PrintMore
attribute [local go_sem] qbT qbR qb7 qb6 qbH qbG qbS qbU
theorem qpG (d : Nat) (w : World) (x0 y0 : Int) (x1 y1 : Int) :
  (Op.equalIn (d + 2) 25 (.agg #[.int .i64 x0, .int .i64 x1]) (.agg #[.int .i64 y0, .int .i64 y1])).run Try.prog w = .ok (x0 == y0 && (x1 == y1)) w := by
 refine qqi Try.underlying25 (by kernel_rfl) ?_
 refine qq4 (by rfl) (by go_simp; rfl) (by go_simp; rfl) (by go_simp) ?_
 exact qnB (by rfl) (by go_simp; rfl) (by go_simp; rfl) (by go_simp)
end Go.Proofs.Ytmhomdohhihlcaa.P
namespace Go.Proofs.Ytmhomdohhihlcaa.P
open Go.RowKit Go.Proofs.YtmhomdohhihlcaaW.PrintWords Go.Proofs.YtmhomdohhihlcaaW.PrintLast Go.Proofs.YtmhomdohhihlcaaW.PrintMore
attribute [local go_sem] qbT qbR qb7 qb6 qbH qbG qbS qbU
attribute [local go_sem high] qpG
def qce.l0 : Nat → List (S25) → List (S25) → Int → Option (Bool)
 | 0, _, _, _ => none
 | k + 1, x0, x1, x5 => if x5 < (x0.length : Int) then (if 0 ≤ x5 then (if x5 < (x1.length : Int) then (if (!(((qbE x0 x5).f0) == ((qbE x1 x5).f0)) || (!(((qbE x0 x5).f1) == ((qbE x1 x5).f1)))) = true then (some false) else (qce.l0 k x0 x1 (wrap64 (x5 + 1)))) else (none)) else (none)) else (some true)
def qce.f (k : Nat) (l0 : List (S25)) (l1 : List (S25)) : Option (Bool) := if (l0.length : Int) = (l1.length : Int) then (qce.l0 k l0 l1 0) else (some false)
set_option maxHeartbeats 8000000 in
set_option maxRecDepth 100000 in
theorem qce.calls (k : Nat) (A0 : Option Addr) (c0 : Nat) (l0 : List (S25)) (A1 : Option Addr) (c1 : Nat) (l1 : List (S25)) (r : Bool) (w : World) (hr0 : Kd.C k25 w A0 l0.length l0) (hc0 : l0.length ≤ c0) (hr1 : Kd.C k25 w A1 l1.length l1) (hc1 : l1.length ≤ c1) (h : qce.f k l0 l1 = some r) :
  Calls Try.prog 24 #[.slice A0 l0.length c0, .slice A1 l1.length c1] w fun e w' => e = .returned (.bool r) ∧ qbn w w' := by
 have hu25 := Try.underlying25
 have HR0 := qaa.mk hr0
 have HC0 := qaa.mk hc0
 clear hr0 hc0
 have HR1 := qaa.mk hr1
 have HC1 := qaa.mk hc1
 clear hr1 hc1
 have H : (if (l0.length : Int) = (l1.length : Int) then (qce.l0 k l0 l1 0) else (some false)) = some r := h
 clear h
 by_cases c3 : (l0.length : Int) = (l1.length : Int)
 ·
  rw [if_pos c3] at H
  have c3b0 : ((l0.length : Int) == (l1.length : Int)) = true := beq_iff_eq.mpr c3
  have c3b1 : ((l0.length : Int) != (l1.length : Int)) = false := bne_eq_false_iff_eq.mpr c3
  have c3b2 : (l0.length == l1.length) = true := by first | simpa using c3 | (simp at c3 ⊢; omega)
  clear c3
  have H' := qaa.mk H
  clear H
  go_enter Try.func24, Try.ntmps24
  go_wp2
  repeat (go_quiet (fail); try go_wp2)
  go_loopg [5] k (fun kq v5 w' => ∃ (x5_1 : Int), v5 = .int .i64 x5_1 ∧ qaa (qce.l0 kq l0 l1 x5_1 = some r) ∧ qaa (kq ≤ k) ∧ qbn w w')
  case atStart => exact ⟨(0), (by first | rfl | (simp; done) | (simp [*]; done)), H', ⟨Nat.le_refl _⟩, by repeat (first | exact qbn.refl _ | apply qbn.step)⟩
  case round =>
   clear H'
   try clear c1
   try clear c2
   try clear p2
   try clear c3
   try clear c3b0
   try clear c3b1
   try clear c3b2
   obtain ⟨x5_1, rfl, HA, HK1, ⟨m1, rfl⟩⟩ := hrel
   cases gk with
   | zero => exact absurd HA.out (by simp [qce.l0])
   | succ k1 =>
    have H := HA.out; clear HA; simp only [qce.l0] at H
    by_cases c4 : x5_1 < (l0.length : Int)
    ·
     rw [if_pos c4] at H; have c4b0 : decide (x5_1 < (l0.length : Int)) = true := decide_eq_true c4; clear c4
     by_cases c5 : 0 ≤ x5_1
     ·
      rw [if_pos c5] at H; have c5b0 : decide (0 ≤ x5_1) = true := decide_eq_true c5; clear c5
      by_cases c6 : x5_1 < (l1.length : Int)
      ·
       rw [if_pos c6] at H; have c6b0 : decide (x5_1 < (l1.length : Int)) = true := decide_eq_true c6; clear c6
       by_cases c7 : (!(((qbE l0 x5_1).f0) == ((qbE l1 x5_1).f0)) || (!(((qbE l0 x5_1).f1) == ((qbE l1 x5_1).f1)))) = true
       ·
        rw [if_pos c7] at H; have c7b0 : (!(((qbE l0 x5_1).f0) == ((qbE l1 x5_1).f0)) || (!(((qbE l0 x5_1).f1) == ((qbE l1 x5_1).f1)))) = true := c7; clear c7; obtain rfl := Option.some.inj H; have p142 : 0 ≤ (x5_1 : Int) := of_decide_eq_true (by first | (with_reducible assumption) | assumption); have q142 : x5_1 < (l0.length : Int) := of_decide_eq_true (by first | (with_reducible assumption) | assumption); obtain ⟨qvO, e142, qtV, qtW⟩ := qhg HR0.out x5_1 p142 q142; cases e142; replace p142 := eq_true p142; replace q142 := eq_true q142; have p143 : 0 ≤ (x5_1 : Int) := of_decide_eq_true (by first | (with_reducible assumption) | assumption); have q143 : x5_1 < (l1.length : Int) := of_decide_eq_true (by first | (with_reducible assumption) | assumption); obtain ⟨qvP, e143, qtX, qtY⟩ := qhg HR1.out x5_1 p143 q143; cases e143; replace p143 := eq_true p143; replace q143 := eq_true q143
        go_wp2
        repeat (go_quiet (fail); try go_wp2)
        go_ret
        exact ⟨by first | rfl | (simp; done) | (simp [*]; done), by repeat (first | exact qbn.refl _ | apply qbn.step)⟩
       rw [if_neg c7] at H
       have c7b0 : (!(((qbE l0 x5_1).f0) == ((qbE l1 x5_1).f0)) || (!(((qbE l0 x5_1).f1) == ((qbE l1 x5_1).f1)))) = false := by simpa using c7
       clear c7; have H' := qaa.mk H; clear H; have p142 : 0 ≤ (x5_1 : Int) := of_decide_eq_true (by first | (with_reducible assumption) | assumption); have q142 : x5_1 < (l0.length : Int) := of_decide_eq_true (by first | (with_reducible assumption) | assumption); obtain ⟨qvO, e142, qtV, qtW⟩ := qhg HR0.out x5_1 p142 q142; cases e142; replace p142 := eq_true p142; replace q142 := eq_true q142; have p143 : 0 ≤ (x5_1 : Int) := of_decide_eq_true (by first | (with_reducible assumption) | assumption); have q143 : x5_1 < (l1.length : Int) := of_decide_eq_true (by first | (with_reducible assumption) | assumption); obtain ⟨qvP, e143, qtX, qtY⟩ := qhg HR1.out x5_1 p143 q143; cases e143; replace p143 := eq_true p143; replace q143 := eq_true q143
       go_wp2
       repeat (go_quiet (fail); try go_wp2)
       go_roundg k1
       case measure => have := HK1.out; omega
       case rel => exact ⟨(wrap64 (x5_1 + 1)), (by first | rfl | (simp; done) | (simp [*]; done)), H', ⟨by have := HK1.out; omega⟩, by repeat (first | exact qbn.refl _ | apply qbn.step)⟩
      rw [if_neg c6] at H
      exact absurd H (by simp)
     rw [if_neg c5] at H
     exact absurd H (by simp)
    rw [if_neg c4] at H; have c4b0 : decide (x5_1 < (l0.length : Int)) = false := decide_eq_false c4; clear c4; obtain rfl := Option.some.inj H
    go_wp2
    repeat (go_quiet (fail); try go_wp2)
    go_ret
    exact ⟨by first | rfl | (simp; done) | (simp [*]; done), by repeat (first | exact qbn.refl _ | apply qbn.step)⟩
 rw [if_neg c3] at H
 have c3b0 : ((l0.length : Int) == (l1.length : Int)) = false := beq_eq_false_iff_ne.mpr c3
 have c3b1 : ((l0.length : Int) != (l1.length : Int)) = true := bne_iff_ne.mpr c3
 have c3b2 : (l0.length == l1.length) = false := by first | simpa using c3 | (simp at c3 ⊢; omega)
 obtain rfl := Option.some.inj H
 go_enter Try.func24, Try.ntmps24
 go_wp2
 repeat (go_quiet (fail); try go_wp2)
 go_ret
 exact ⟨by first | rfl | (simp; done) | (simp [*]; done), by repeat (first | exact qbn.refl _ | apply qbn.step)⟩
end Go.Proofs.Ytmhomdohhihlcaa.P
namespace Go.Proofs.Ytmhomdohhihlcaa.P
open Go.RowKit Go.Proofs.YtmhomdohhihlcaaW.PrintWords Go.Proofs.YtmhomdohhihlcaaW.PrintLast Go.Proofs.YtmhomdohhihlcaaW.PrintMore
attribute [local go_sem] qbT qbR qb7 qb6 qbH qbG qbS qbU
mutual
def qau.j0 : Nat → Int → Bool → List (S39) → List Int → List (List (List Int)) → Option (Int)
 | 0, _, _, _, _, _ => none
 | k + 1, x3, x4, qcN, qc9, qcU => qau.l0 k x3 x4 0 qcN qc9 qcU
def qau.l0 : Nat → Int → Bool → Int → List (S39) → List Int → List (List (List Int)) → Option (Int)
 | 0, _, _, _, _, _, _ => none
 | k + 1, x3, x4, x5, qcN, qc9, qcU => if x4 = true then (qau.j2 k x3 x4 x5 (decide (x5 < x3)) qcN qc9 qcU) else (qau.j2 k x3 x4 x5 false qcN qc9 qcU)
def qau.j2 : Nat → Int → Bool → Int → Bool → List (S39) → List Int → List (List (List Int)) → Option (Int)
 | 0, _, _, _, _, _, _, _ => none
 | k + 1, x3, x4, x5, x35, qcN, qc9, qcU => if x35 = true then (if 0 ≤ x5 then (if x5 < (qcN.length : Int) then ((qan.f k ((qak qcN x5).f0) ((qak qcN x5).f1) ((qak qcN x5).f2) ((qak qcN x5).f3) ((qak qcN x5).f4)).bind fun t191 => (if t191 = true then (if x5 < (qc9.length : Int) then ((qat.f (rd qc9 x5) 0 100).bind fun t193 => (qau.l0 k x3 t193 (wrap64 (x5 + 1)) qcN qc9 qcU)) else (none)) else (qau.l0 k x3 false (wrap64 (x5 + 1)) qcN qc9 qcU))) else (none)) else (none)) else (qau.l1 k x3 x4 qcU (qcU.length : Int) 0 qcN qc9 qcU)
def qau.l1 : Nat → Int → Bool → List (List (List Int)) → Int → Int → List (S39) → List Int → List (List (List Int)) → Option (Int)
 | 0, _, _, _, _, _, _, _, _ => none
 | k + 1, x3, x4, x54, x55, x56, qcN, qc9, qcU => if x56 < x55 then (if 0 ≤ x56 then (if x56 < (x54.length : Int) then (if x4 = true then (qau.j4 k x3 (((qaA x54 x56).length : Int) == x3) (qaA x54 x56) x54 x55 x56 qcN qc9 qcU) else (qau.j4 k x3 false (qaA x54 x56) x54 x55 x56 qcN qc9 qcU)) else (none)) else (none)) else (if x4 = true then (some 0) else (some 93))
def qau.j4 : Nat → Int → Bool → List (List Int) → List (List (List Int)) → Int → Int → List (S39) → List Int → List (List (List Int)) → Option (Int)
 | 0, _, _, _, _, _, _, _, _, _ => none
 | k + 1, x3, x4, x7, x54, x55, x56, qcN, qc9, qcU => qau.l2 k x3 x4 x54 x55 x56 x7 (x7.length : Int) 0 qcN qc9 qcU
def qau.l2 : Nat → Int → Bool → List (List (List Int)) → Int → Int → List (List Int) → Int → Int → List (S39) → List Int → List (List (List Int)) → Option (Int)
 | 0, _, _, _, _, _, _, _, _, _, _, _ => none
 | k + 1, x3, x4, x54, x55, x56, x67, x68, x69, qcN, qc9, qcU => if x69 < x68 then (if 0 ≤ x69 then (if x69 < (x67.length : Int) then (if x4 = true then ((qat.f ((qaT x67 x69).length : Int) 1 10).bind fun t196 => (if t196 = true then (if 0 < (qcU.length : Int) then (if 0 < ((qaA qcU 0).length : Int) then (qau.j6 k x3 (((qaT x67 x69).length : Int) == ((qaT (qaA qcU 0) 0).length : Int)) (qaT x67 x69) x54 x55 x56 x67 x68 x69 qcN qc9 qcU) else (none)) else (none)) else (qau.j6 k x3 false (qaT x67 x69) x54 x55 x56 x67 x68 x69 qcN qc9 qcU))) else (qau.j6 k x3 false (qaT x67 x69) x54 x55 x56 x67 x68 x69 qcN qc9 qcU)) else (none)) else (none)) else (qau.l1 k x3 x4 x54 x55 (wrap64 (x56 + 1)) qcN qc9 qcU)
def qau.j6 : Nat → Int → Bool → List Int → List (List (List Int)) → Int → Int → List (List Int) → Int → Int → List (S39) → List Int → List (List (List Int)) → Option (Int)
 | 0, _, _, _, _, _, _, _, _, _, _, _, _ => none
 | k + 1, x3, x4, x9, x54, x55, x56, x67, x68, x69, qcN, qc9, qcU => qau.l3 k x3 x4 x54 x55 x56 x67 x68 x69 x9 (x9.length : Int) 0 qcN qc9 qcU
def qau.l3 : Nat → Int → Bool → List (List (List Int)) → Int → Int → List (List Int) → Int → Int → List Int → Int → Int → List (S39) → List Int → List (List (List Int)) → Option (Int)
 | 0, _, _, _, _, _, _, _, _, _, _, _, _, _, _ => none
 | k + 1, x3, x4, x54, x55, x56, x67, x68, x69, x91, x92, x93, qcN, qc9, qcU => if x93 < x92 then (if 0 ≤ x93 then (if x93 < (x91.length : Int) then (if x4 = true then ((qat.f (rd x91 x93) 0 100000).bind fun t200 => (qau.l3 k x3 t200 x54 x55 x56 x67 x68 x69 x91 x92 (wrap64 (x93 + 1)) qcN qc9 qcU)) else (qau.l3 k x3 false x54 x55 x56 x67 x68 x69 x91 x92 (wrap64 (x93 + 1)) qcN qc9 qcU)) else (none)) else (none)) else (qau.l2 k x3 x4 x54 x55 x56 x67 x68 (wrap64 (x69 + 1)) qcN qc9 qcU)
end
def qau.f (k : Nat) (l0_0 : List (S39)) (l0_1 : List Int) (l0_2 : List (List (List Int))) : Option (Int) := (qat.f (l0_0.length : Int) 1 3).bind fun t188 => (if t188 = true then (if (l0_1.length : Int) = (l0_0.length : Int) then ((qat.f (l0_2.length : Int) 1 6).bind fun t189 => (qau.j0 k (l0_0.length : Int) t189 l0_0 l0_1 l0_2)) else (qau.j0 k (l0_0.length : Int) false l0_0 l0_1 l0_2)) else (qau.j0 k (l0_0.length : Int) false l0_0 l0_1 l0_2))
set_option maxHeartbeats 8000000 in
set_option maxRecDepth 100000 in
theorem qau.calls (k : Nat) (A0_0 : Option Addr) (c0_0 : Nat) (l0_0 : List (S39)) (A0_1 : Option Addr) (c0_1 : Nat) (l0_1 : List Int) (A0_2 : Option Addr) (c0_2 : Nat) (l0_2 : List (List (List Int))) (r : Int) (w : World) (qcQ : Kd.C k39 w A0_0 l0_0.length l0_0) (qcV : l0_0.length ≤ c0_0) (qcH : Kd.C (Kd.int .i64) w A0_1 l0_1.length l0_1) (qcL : l0_1.length ≤ c0_1) (qcI : Kd.C (Kd.slice 37 (Kd.slice 3 (Kd.int .i64))) w A0_2 l0_2.length l0_2) (qcM : l0_2.length ≤ c0_2) (h : qau.f k l0_0 l0_1 l0_2 = some r) :
  Calls Try.prog 30 #[.agg #[.slice A0_0 l0_0.length c0_0, .slice A0_1 l0_1.length c0_1, .slice A0_2 l0_2.length c0_2]] w fun e w' => e = .returned (.int .i64 r) ∧ Below w.heap.size w w' := by
 have hu47 := Try.underlying47
 have hu39 := Try.underlying39
 have qpP := Try.underlying111
 have qb9 := qaa.mk qcQ
 have qcx := qaa.mk qcV
 clear qcQ qcV
 have qb2 := qaa.mk qcH
 have qcj := qaa.mk qcL
 clear qcH qcL
 have qb8 := qaa.mk qcI
 have qck := qaa.mk qcM
 clear qcI qcM
 have HB := qaa.mk (Below.refl w.heap.size w)
 have H : ((qat.f (l0_0.length : Int) 1 3).bind fun t188 => (if t188 = true then (if (l0_1.length : Int) = (l0_0.length : Int) then ((qat.f (l0_2.length : Int) 1 6).bind fun t189 => (qau.j0 k (l0_0.length : Int) t189 l0_0 l0_1 l0_2)) else (qau.j0 k (l0_0.length : Int) false l0_0 l0_1 l0_2)) else (qau.j0 k (l0_0.length : Int) false l0_0 l0_1 l0_2))) = some r := h
 clear h
 have HC2 := qaa.mk H
 clear H
 go_enter Try.func30, Try.ntmps30
 go_upto_region 2 with (first | ((with_reducible refine qaN (N := 1) rfl ?_); (try (refine qdG (by rfl) ?_; dsimp only)); refine qba ?hg (N := 1) ?hd (cs := #[.slice A0_0 l0_0.length c0_0, .slice A0_1 l0_1.length c0_1, .slice A0_2 l0_2.length c0_2]) (t := 47) ?hr ?_; (case hd => rfl); (case hg => rfl); (case hr => first | (go_simp; done) | (go_simp; rfl)); intro qdb hg w3 hbox hb; have n0_ := qaa.mk (qap (by repeat (first | (with_reducible first | exact HB.out | apply qac | apply qab | apply qag) | exact HB.out)) hb); have n1_ := qaa.mk (hbox); have n2_ := qaa.mk ((by rw [hg]; exact (qal (by repeat (first | (with_reducible first | exact HB.out | apply qac | apply qab | apply qag) | exact HB.out))) : w.heap.size ≤ qdb)); have n3_ := qaa.mk ((by rw [hg]; exact (qal (by repeat (first | (with_reducible first | exact HB.out | apply qac | apply qab | apply qag) | exact HB.out))) : w.heap.size ≤ qdb)); clear HB; have HB := n0_; have qbt := n1_; have qD5 := n2_; have qd1 := n3_; clear n0_ n1_ n2_ n3_; clear hb hbox hg; have qdV : w3.cell? ⟨qdb, 0, none⟩ = some (.slice A0_0 l0_0.length c0_0) := (qaf qbt.out 0).trans rfl; have qdW : w3.cell? ⟨qdb, 1, none⟩ = some (.slice A0_1 l0_1.length c0_1) := (qaf qbt.out 1).trans rfl; have qd6 : w3.cell? ⟨qdb, 2, none⟩ = some (.slice A0_2 l0_2.length c0_2) := (qaf qbt.out 2).trans rfl; have qdX := qaj qbt.out 0; have qdY := qaj qbt.out 1; have qd7 := qaj qbt.out 2))
 (try simp only [Act.put, List.setIfInBounds_toArray, List.set_cons_zero, List.set_cons_succ])
 go_cut [4] (fun v4 wc => ∃ (kq : Nat) (x4_1 : Bool), v4 = .bool x4_1 ∧ qaa (qau.j0 kq (l0_0.length : Int) x4_1 l0_0 l0_1 l0_2 = some r) ∧ qaa (kq ≤ k) ∧ qaa (wc.heap[qdb]? = some (.cells #[(.slice A0_0 l0_0.length c0_0), (.slice A0_1 l0_1.length c0_1), (.slice A0_2 l0_2.length c0_2)] 47 (0, 0))) ∧ qaa (Below w.heap.size w wc))
 case first =>
  have H := HC2.out
  clear HC2
  replace H := Option.bind_eq_some_iff.mp H
  obtain ⟨t188, A50, H⟩ := H
  replace H : (if t188 = true then (if (l0_1.length : Int) = (l0_0.length : Int) then ((qat.f (l0_2.length : Int) 1 6).bind fun t189 => (qau.j0 k (l0_0.length : Int) t189 l0_0 l0_1 l0_2)) else (qau.j0 k (l0_0.length : Int) false l0_0 l0_1 l0_2)) else (qau.j0 k (l0_0.length : Int) false l0_0 l0_1 l0_2)) = some r := H
  have A5 := qaa.mk A50
  clear A50
  by_cases c6 : t188 = true
  ·
   subst c6
   have H1 : (if (l0_1.length : Int) = (l0_0.length : Int) then ((qat.f (l0_2.length : Int) 1 6).bind fun t189 => (qau.j0 k (l0_0.length : Int) t189 l0_0 l0_1 l0_2)) else (qau.j0 k (l0_0.length : Int) false l0_0 l0_1 l0_2)) = some r := by rw [if_pos rfl] at H; exact H
   clear H
   have H := H1
   clear H1
   by_cases c7 : (l0_1.length : Int) = (l0_0.length : Int)
   ·
    rw [if_pos c7] at H; have c7b0 : ((l0_1.length : Int) == (l0_0.length : Int)) = true := beq_iff_eq.mpr c7; have c7b1 : ((l0_1.length : Int) != (l0_0.length : Int)) = false := bne_eq_false_iff_eq.mpr c7
    have c7b2 : (l0_1.length == l0_0.length) = true := by first | simpa using c7 | (simp at c7 ⊢; omega)
    clear c7
    (first | rw [c7b0] | (simp only [qaQ, qaU]; rw [c7b0]) | skip)
    replace H := Option.bind_eq_some_iff.mp H; obtain ⟨t189, A80, H⟩ := H; replace H : (qau.j0 k (l0_0.length : Int) t189 l0_0 l0_1 l0_2) = some r := H; have A8 := qaa.mk A80; clear A80; have H' := qaa.mk H; clear H
    go_wp2_with (first | ((with_reducible refine qaz (f := 65) rfl ?_); refine qbd (some 16) rfl rfl Try.func65 (by kernel_rfl) rfl #[.int .i64 (l0_0.length : Int), .int .i64 1, .int .i64 3] rfl (by (try simp only [List.map_toArray, List.map_cons, List.map_nil]); first | done | rfl | (simp only [List.length_drop, List.length_take]; rfl)) ?_; (with_reducible refine (qat.calls (l0_0.length : Int) 1 3 true _ A5.out).mono ?_); rintro e w' ⟨rfl, ⟨nd, rfl⟩⟩; refine ⟨_, rfl, ?_⟩; have qe2 : w3.cell? ⟨qdb, 0, none⟩ = some (.slice A0_0 l0_0.length c0_0) := (qaf qbt.out 0).trans rfl; have qe3 : w3.cell? ⟨qdb, 1, none⟩ = some (.slice A0_1 l0_1.length c0_1) := (qaf qbt.out 1).trans rfl; have qe4 : w3.cell? ⟨qdb, 2, none⟩ = some (.slice A0_2 l0_2.length c0_2) := (qaf qbt.out 2).trans rfl; have qe5 := qaj qbt.out 0; have qe6 := qaj qbt.out 1; have qe7 := qaj qbt.out 2) | (go_at_call 65; (with_reducible refine (qat.calls (l0_2.length : Int) 1 6 t189 _ A8.out).mono ?_); rintro e w' ⟨rfl, ⟨nd, rfl⟩⟩))
    go_meet
    case rel => exact ⟨_, (t189), (by first | rfl | (simp; done) | (simp [*]; done)), H', ⟨by first | omega | exact Nat.le_refl _⟩, ⟨by (with_reducible repeat (first | refine qae ?_ _ | refine qai ?_ | refine qad ?_ _)); exact qbt.out⟩, ⟨by repeat (first | (with_reducible first | exact HB.out | apply qac | apply qab | apply qag | refine qah ?_ qd1.out) | exact HB.out)⟩⟩
   rw [if_neg c7] at H
   have c7b0 : ((l0_1.length : Int) == (l0_0.length : Int)) = false := beq_eq_false_iff_ne.mpr c7
   have c7b1 : ((l0_1.length : Int) != (l0_0.length : Int)) = true := bne_iff_ne.mpr c7
   have c7b2 : (l0_1.length == l0_0.length) = false := by first | simpa using c7 | (simp at c7 ⊢; omega)
   (first | rw [c7b0] | (simp only [qaQ, qaU]; rw [c7b0]) | skip)
   have H' := qaa.mk H
   clear H
   go_wp2_with (first | ((with_reducible refine qaz (f := 65) rfl ?_); refine qbd (some 16) rfl rfl Try.func65 (by kernel_rfl) rfl #[.int .i64 (l0_0.length : Int), .int .i64 1, .int .i64 3] rfl (by (try simp only [List.map_toArray, List.map_cons, List.map_nil]); first | done | rfl | (simp only [List.length_drop, List.length_take]; rfl)) ?_; (with_reducible refine (qat.calls (l0_0.length : Int) 1 3 true _ A5.out).mono ?_); rintro e w' ⟨rfl, ⟨nd, rfl⟩⟩; refine ⟨_, rfl, ?_⟩; have qeV : w3.cell? ⟨qdb, 0, none⟩ = some (.slice A0_0 l0_0.length c0_0) := (qaf qbt.out 0).trans rfl; have qeW : w3.cell? ⟨qdb, 1, none⟩ = some (.slice A0_1 l0_1.length c0_1) := (qaf qbt.out 1).trans rfl; have qfi : w3.cell? ⟨qdb, 2, none⟩ = some (.slice A0_2 l0_2.length c0_2) := (qaf qbt.out 2).trans rfl; have qeX := qaj qbt.out 0; have qeY := qaj qbt.out 1; have qfj := qaj qbt.out 2))
   go_meet
   case rel => exact ⟨_, (false), (by first | rfl | (simp; done) | (simp [*]; done)), H', ⟨by first | omega | exact Nat.le_refl _⟩, ⟨by (with_reducible repeat (first | refine qae ?_ _ | refine qai ?_ | refine qad ?_ _)); exact qbt.out⟩, ⟨by repeat (first | (with_reducible first | exact HB.out | apply qac | apply qab | apply qag | refine qah ?_ qd1.out) | exact HB.out)⟩⟩
  replace c6 := Bool.eq_false_iff.mpr c6
  subst c6
  have H1 : (qau.j0 k (l0_0.length : Int) false l0_0 l0_1 l0_2) = some r := by rw [if_neg (show ¬ (false = true) by decide)] at H; exact H
  clear H
  have H := H1
  clear H1
  have H' := qaa.mk H
  clear H
  go_wp2_with (first | ((with_reducible refine qaz (f := 65) rfl ?_); refine qbd (some 16) rfl rfl Try.func65 (by kernel_rfl) rfl #[.int .i64 (l0_0.length : Int), .int .i64 1, .int .i64 3] rfl (by (try simp only [List.map_toArray, List.map_cons, List.map_nil]); first | done | rfl | (simp only [List.length_drop, List.length_take]; rfl)) ?_; (with_reducible refine (qat.calls (l0_0.length : Int) 1 3 false _ A5.out).mono ?_); rintro e w' ⟨rfl, ⟨nd, rfl⟩⟩; refine ⟨_, rfl, ?_⟩))
  go_meet
  case rel => exact ⟨_, (false), (by first | rfl | (simp; done) | (simp [*]; done)), H', ⟨by first | omega | exact Nat.le_refl _⟩, ⟨by (with_reducible repeat (first | refine qae ?_ _ | refine qai ?_ | refine qad ?_ _)); exact qbt.out⟩, ⟨by repeat (first | (with_reducible first | exact HB.out | apply qac | apply qab | apply qag | refine qah ?_ qd1.out) | exact HB.out)⟩⟩
 case rest =>
  clear HC2
  try clear p2
  try clear c3
  try clear c6
  try clear c7
  try clear c7b0
  try clear c7b1
  try clear c7b2
  try clear qeV
  try clear qeW
  try clear qfi
  try clear qdV
  try clear qdW
  try clear qd6
  try clear qe2
  try clear qe3
  try clear qe4
  try clear qeX
  try clear qeY
  try clear qfj
  try clear qdX
  try clear qdY
  try clear qd7
  try clear qe5
  try clear qe6
  try clear qe7
  obtain ⟨kq, x4_1, rfl, HA, HJ1, qbt, HB⟩ := hcut
  cases kq with
  | zero => exact absurd HA.out (by simp [qau.j0])
  | succ kj1 =>
   have H := HA.out
   clear HA
   simp only [qau.j0] at H
   have H' := qaa.mk H
   clear H
   go_wp2
   go_loopg [4, 5] kj1 (fun kq v4 v5 w' => ∃ (x4_2 : Bool) (x5_2 : Int), v4 = .bool x4_2 ∧ v5 = .int .i64 x5_2 ∧ qaa (qau.l0 kq (l0_0.length : Int) x4_2 x5_2 l0_0 l0_1 l0_2 = some r) ∧ qaa (kq ≤ kj1) ∧ qaa (w'.heap[qdb]? = some (.cells #[(.slice A0_0 l0_0.length c0_0), (.slice A0_1 l0_1.length c0_1), (.slice A0_2 l0_2.length c0_2)] 47 (0, 0))) ∧ qaa (Below w.heap.size w w'))
   case atStart => exact ⟨(x4_1), (0), (by first | rfl | (simp; done) | (simp [*]; done)), (by first | rfl | (simp; done) | (simp [*]; done)), H', ⟨Nat.le_refl _⟩, ⟨by (with_reducible repeat (first | refine qae ?_ _ | refine qai ?_ | refine qad ?_ _)); exact qbt.out⟩, ⟨by repeat (first | (with_reducible first | exact HB.out | apply qac | apply qab | apply qag | refine qah ?_ qd1.out) | exact HB.out)⟩⟩
   case round =>
    clear H'; (try clear p2); (try clear c3); (try clear c6); (try clear c7); (try clear c7b0); (try clear c7b1); (try clear c7b2); (try clear qeV); (try clear qeW); (try clear qfi); (try clear qdV); (try clear qdW); (try clear qd6); (try clear qe2); (try clear qe3); (try clear qe4); (try clear qeX); (try clear qeY); (try clear qfj); (try clear qdX); (try clear qdY); (try clear qd7); (try clear qe5); (try clear qe6); (try clear qe7); (try clear p2); obtain ⟨x4_2, x5_2, rfl, rfl, HA, HK2, qbt, HB⟩ := hrel
    cases gk with
    | zero => exact absurd HA.out (by simp [qau.l0])
    | succ k2 =>
     have H := HA.out; clear HA; simp only [qau.l0] at H; have HC11 := qaa.mk H; clear H
     go_upto_region 4 with (fail)
     go_cut [35] (fun v35 wc => ∃ (kq : Nat) (qlG : Bool), v35 = .bool qlG ∧ qaa (qau.j2 kq (l0_0.length : Int) x4_2 x5_2 qlG l0_0 l0_1 l0_2 = some r) ∧ qaa (kq ≤ k2) ∧ qaa (wc.heap[qdb]? = some (.cells #[(.slice A0_0 l0_0.length c0_0), (.slice A0_1 l0_1.length c0_1), (.slice A0_2 l0_2.length c0_2)] 47 (0, 0))) ∧ qaa (Below w.heap.size w wc))
     case first =>
      have H := HC11.out; clear HC11
      by_cases c12 : x4_2 = true
      ·
       subst c12
       have H1 : (qau.j2 k2 (l0_0.length : Int) true x5_2 (decide (x5_2 < (l0_0.length : Int))) l0_0 l0_1 l0_2) = some r := by rw [if_pos rfl] at H; exact H
       clear H; have H := H1; clear H1; have H' := qaa.mk H; clear H
       go_wp2
       go_meet
       case rel => exact ⟨_, (decide (x5_2 < (l0_0.length : Int))), (by first | rfl | (simp; done) | (simp [*]; done)), H', ⟨by have := HJ1.out; have := HK2.out; first | omega | exact Nat.le_refl _⟩, ⟨by (with_reducible repeat (first | refine qae ?_ _ | refine qai ?_ | refine qad ?_ _)); exact qbt.out⟩, ⟨by repeat (first | (with_reducible first | exact HB.out | apply qac | apply qab | apply qag | refine qah ?_ qd1.out) | exact HB.out)⟩⟩
      replace c12 := Bool.eq_false_iff.mpr c12; subst c12
      have H1 : (qau.j2 k2 (l0_0.length : Int) false x5_2 false l0_0 l0_1 l0_2) = some r := by rw [if_neg (show ¬ (false = true) by decide)] at H; exact H
      clear H; have H := H1; clear H1; have H' := qaa.mk H; clear H
      go_wp2
      go_meet
      case rel => exact ⟨_, (false), (by first | rfl | (simp; done) | (simp [*]; done)), H', ⟨by have := HJ1.out; have := HK2.out; first | omega | exact Nat.le_refl _⟩, ⟨by (with_reducible repeat (first | refine qae ?_ _ | refine qai ?_ | refine qad ?_ _)); exact qbt.out⟩, ⟨by repeat (first | (with_reducible first | exact HB.out | apply qac | apply qab | apply qag | refine qah ?_ qd1.out) | exact HB.out)⟩⟩
     case rest =>
      clear HC11; (try clear c1); (try clear p2); (try clear c3); (try clear c6); (try clear c7); (try clear c7b0); (try clear c7b1); (try clear c7b2); (try clear c12); (try clear qeV); (try clear qeW); (try clear qfi); (try clear qdV); (try clear qdW); (try clear qd6); (try clear qe2); (try clear qe3); (try clear qe4); (try clear qeX); (try clear qeY); (try clear qfj); (try clear qdX); (try clear qdY); (try clear qd7); (try clear qe5); (try clear qe6); (try clear qe7); (try clear p2); obtain ⟨kq, qlG, rfl, HA, HJ10, qbt, HB⟩ := hcut
      cases kq with
      | zero => exact absurd HA.out (by simp [qau.j2])
      | succ kj10 =>
       have H := HA.out; clear HA; simp only [qau.j2] at H
       by_cases c13 : qlG = true
       ·
        subst c13
        have H1 : (if 0 ≤ x5_2 then (if x5_2 < (l0_0.length : Int) then ((qan.f kj10 ((qak l0_0 x5_2).f0) ((qak l0_0 x5_2).f1) ((qak l0_0 x5_2).f2) ((qak l0_0 x5_2).f3) ((qak l0_0 x5_2).f4)).bind fun t191 => (if t191 = true then (if x5_2 < (l0_1.length : Int) then ((qat.f (rd l0_1 x5_2) 0 100).bind fun t193 => (qau.l0 kj10 (l0_0.length : Int) t193 (wrap64 (x5_2 + 1)) l0_0 l0_1 l0_2)) else (none)) else (qau.l0 kj10 (l0_0.length : Int) false (wrap64 (x5_2 + 1)) l0_0 l0_1 l0_2))) else (none)) else (none)) = some r := by rw [if_pos rfl] at H; exact H
        clear H; have H := H1; clear H1
        by_cases c14 : 0 ≤ x5_2
        ·
         rw [if_pos c14] at H; have c14b0 : decide (0 ≤ x5_2) = true := decide_eq_true c14; clear c14
         by_cases c15 : x5_2 < (l0_0.length : Int)
         ·
          rw [if_pos c15] at H; have c15b0 : decide (x5_2 < (l0_0.length : Int)) = true := decide_eq_true c15; clear c15; replace H := Option.bind_eq_some_iff.mp H; obtain ⟨t191, A160, H⟩ := H; replace H : (if t191 = true then (if x5_2 < (l0_1.length : Int) then ((qat.f (rd l0_1 x5_2) 0 100).bind fun t193 => (qau.l0 kj10 (l0_0.length : Int) t193 (wrap64 (x5_2 + 1)) l0_0 l0_1 l0_2)) else (none)) else (qau.l0 kj10 (l0_0.length : Int) false (wrap64 (x5_2 + 1)) l0_0 l0_1 l0_2)) = some r := H; have A16 := qaa.mk A160; clear A160
          by_cases c17 : t191 = true
          ·
           subst c17
           have H1 : (if x5_2 < (l0_1.length : Int) then ((qat.f (rd l0_1 x5_2) 0 100).bind fun t193 => (qau.l0 kj10 (l0_0.length : Int) t193 (wrap64 (x5_2 + 1)) l0_0 l0_1 l0_2)) else (none)) = some r := by rw [if_pos rfl] at H; exact H
           clear H; have H := H1; clear H1
           by_cases c18 : x5_2 < (l0_1.length : Int)
           ·
            rw [if_pos c18] at H; have c18b0 : decide (x5_2 < (l0_1.length : Int)) = true := decide_eq_true c18; clear c18; replace H := Option.bind_eq_some_iff.mp H; obtain ⟨t193, A190, H⟩ := H; replace H : (qau.l0 kj10 (l0_0.length : Int) t193 (wrap64 (x5_2 + 1)) l0_0 l0_1 l0_2) = some r := H; have A19 := qaa.mk A190; clear A190; have H' := qaa.mk H; clear H; have qju : wc.cell? ⟨qdb, 0, none⟩ = some (.slice A0_0 l0_0.length c0_0) := (qaf qbt.out 0).trans rfl; have qjv : wc.cell? ⟨qdb, 1, none⟩ = some (.slice A0_1 l0_1.length c0_1) := (qaf qbt.out 1).trans rfl; have qjw : wc.cell? ⟨qdb, 2, none⟩ = some (.slice A0_2 l0_2.length c0_2) := (qaf qbt.out 2).trans rfl; have qjx := qaj qbt.out 0; have qjy := qaj qbt.out 1; have qjz := qaj qbt.out 2; have p190 : 0 ≤ (x5_2 : Int) := of_decide_eq_true (by first | (with_reducible assumption) | assumption); have q190 : x5_2 < (l0_0.length : Int) := of_decide_eq_true (by first | (with_reducible assumption) | assumption); obtain ⟨qnm, qn1, qn2, qn3, qn4, qn5, qn6, e190, qfk, qfl, qfm, qfn, qfo, qjA, qjB, qjC, qjD, qjE, qjF⟩ := qnV qb9.out x5_2 p190 q190; cases e190; replace qfk := (HB.out.cell (World.block_lt_of_cell? w _ qfk)).trans qfk; replace qfl := (HB.out.cell (World.block_lt_of_cell? w _ qfl)).trans qfl; replace qfm := (HB.out.cell (World.block_lt_of_cell? w _ qfm)).trans qfm; replace qfn := (HB.out.cell (World.block_lt_of_cell? w _ qfn)).trans qfn; replace qfo := (HB.out.cell (World.block_lt_of_cell? w _ qfo)).trans qfo; have qmJ := qaa.mk qjB; have qmK := qaa.mk qjA; clear qjB qjA; have qmL := qaa.mk qjD; have qmM := qaa.mk qjC; clear qjD qjC; have qmN := qaa.mk qjF; have qmO := qaa.mk qjE; clear qjF qjE; replace p190 := eq_true p190; replace q190 := eq_true q190
            go_wp2_with (first | ((with_reducible refine qaz (f := 76) rfl ?_); refine qbd (some 44) rfl rfl Try.func76 (by kernel_rfl) rfl #[.agg #[.slice qn1 ((qak l0_0 x5_2).f0).length qn2, .slice qn3 ((qak l0_0 x5_2).f1).length qn4, .slice qn5 ((qak l0_0 x5_2).f2).length qn6, .int .i64 ((qak l0_0 x5_2).f3), .int .i64 ((qak l0_0 x5_2).f4)]] rfl (by (try simp only [List.map_toArray, List.map_cons, List.map_nil]); first | done | rfl | (simp only [List.length_drop, List.length_take]; rfl)) ?_; (with_reducible refine (qan.calls kj10 _ _ ((qak l0_0 x5_2).f0) _ _ ((qak l0_0 x5_2).f1) _ _ ((qak l0_0 x5_2).f2) ((qak l0_0 x5_2).f3) ((qak l0_0 x5_2).f4) true _ ?side1 ?side2 ?side3 ?side4 ?side5 ?side6 A16.out).mono ?_); (case side1 => repeat (first | exact (Kd.C_below qmJ.out HB.out) | (with_reducible refine Kd.C_alloc ?_ _) | (with_reducible refine Kd.C_drewN ?_ _) | (with_reducible refine Kd.C_drew ?_))); (case side2 => exact qmK.out); (case side3 => repeat (first | exact (Kd.C_below qmL.out HB.out) | (with_reducible refine Kd.C_alloc ?_ _) | (with_reducible refine Kd.C_drewN ?_ _) | (with_reducible refine Kd.C_drew ?_))); (case side4 => exact qmM.out); (case side5 => repeat (first | exact (Kd.C_below qmN.out HB.out) | (with_reducible refine Kd.C_alloc ?_ _) | (with_reducible refine Kd.C_drewN ?_ _) | (with_reducible refine Kd.C_drew ?_))); (case side6 => exact qmO.out); rintro e w21 ⟨rfl, hb⟩; refine ⟨_, rfl, ?_⟩; have n0_ := qaa.mk (qam (g := qdb) (o := .cells #[.slice (some qnm) l0_0.length c0_0, .slice A0_1 l0_1.length c0_1, .slice A0_2 l0_2.length c0_2] 47 (0, 0)) (by (with_reducible repeat (first | refine qae ?_ _ | refine qai ?_ | refine qad ?_ _)); exact qbt.out) hb); have n1_ := qaa.mk (qap (by repeat (first | (with_reducible first | exact HB.out | apply qac | apply qab | apply qag | refine qah ?_ qd1.out) | exact HB.out)) hb); clear qbt; clear HB; have qbt := n0_; have HB := n1_; clear n0_ n1_; (try clear hb); (try clear hb2); (try clear hk); (try clear hi); have qhv : w21.cell? ⟨qdb, 0, none⟩ = some (.slice (some qnm) l0_0.length c0_0) := (qaf qbt.out 0).trans rfl; have qhw : w21.cell? ⟨qdb, 1, none⟩ = some (.slice A0_1 l0_1.length c0_1) := (qaf qbt.out 1).trans rfl; have qhx : w21.cell? ⟨qdb, 2, none⟩ = some (.slice A0_2 l0_2.length c0_2) := (qaf qbt.out 2).trans rfl; have qhy := qaj qbt.out 0; have qhz := qaj qbt.out 1; have qhA := qaj qbt.out 2; have p192 : 0 ≤ (x5_2 : Int) := of_decide_eq_true (by first | (with_reducible assumption) | assumption); have q192 : x5_2 < (l0_1.length : Int) := of_decide_eq_true (by first | (with_reducible assumption) | assumption); obtain ⟨qD6, e192, qg9⟩ := Kd.at_int qb2.out x5_2 p192 q192; cases e192; replace qg9 := (HB.out.cell (World.block_lt_of_cell? w _ qg9)).trans qg9; replace p192 := eq_true p192; replace q192 := eq_true q192) | (go_at_call 65; (with_reducible refine (qat.calls (rd l0_1 x5_2) 0 100 t193 _ A19.out).mono ?_); rintro e w' ⟨rfl, ⟨nd, rfl⟩⟩))
            go_roundg kj10
            case measure => have := HJ1.out; have := HK2.out; have := HJ10.out; omega
            case rel => exact ⟨(t193), (wrap64 (x5_2 + 1)), (by first | rfl | (simp; done) | (simp [*]; done)), (by first | rfl | (simp; done) | (simp [*]; done)), H', ⟨by have := HJ1.out; have := HK2.out; have := HJ10.out; omega⟩, ⟨by (with_reducible repeat (first | refine qae ?_ _ | refine qai ?_ | refine qad ?_ _)); exact qbt.out⟩, ⟨by repeat (first | (with_reducible first | exact HB.out | apply qac | apply qab | apply qag | refine qah ?_ qd1.out) | exact HB.out)⟩⟩
           rw [if_neg c18] at H
           exact absurd H (by simp)
          replace c17 := Bool.eq_false_iff.mpr c17; subst c17
          have H1 : (qau.l0 kj10 (l0_0.length : Int) false (wrap64 (x5_2 + 1)) l0_0 l0_1 l0_2) = some r := by rw [if_neg (show ¬ (false = true) by decide)] at H; exact H
          clear H; have H := H1; clear H1; have H' := qaa.mk H; clear H; have qjG : wc.cell? ⟨qdb, 0, none⟩ = some (.slice A0_0 l0_0.length c0_0) := (qaf qbt.out 0).trans rfl; have qjH : wc.cell? ⟨qdb, 1, none⟩ = some (.slice A0_1 l0_1.length c0_1) := (qaf qbt.out 1).trans rfl; have qjI : wc.cell? ⟨qdb, 2, none⟩ = some (.slice A0_2 l0_2.length c0_2) := (qaf qbt.out 2).trans rfl; have qjJ := qaj qbt.out 0; have qjK := qaj qbt.out 1; have qjL := qaj qbt.out 2; have p190 : 0 ≤ (x5_2 : Int) := of_decide_eq_true (by first | (with_reducible assumption) | assumption); have q190 : x5_2 < (l0_0.length : Int) := of_decide_eq_true (by first | (with_reducible assumption) | assumption); obtain ⟨qnm, qn1, qn2, qn3, qn4, qn5, qn6, e190, qfk, qfl, qfm, qfn, qfo, qjA, qjB, qjC, qjD, qjE, qjF⟩ := qnV qb9.out x5_2 p190 q190; cases e190; replace qfk := (HB.out.cell (World.block_lt_of_cell? w _ qfk)).trans qfk; replace qfl := (HB.out.cell (World.block_lt_of_cell? w _ qfl)).trans qfl; replace qfm := (HB.out.cell (World.block_lt_of_cell? w _ qfm)).trans qfm; replace qfn := (HB.out.cell (World.block_lt_of_cell? w _ qfn)).trans qfn; replace qfo := (HB.out.cell (World.block_lt_of_cell? w _ qfo)).trans qfo; have qmJ := qaa.mk qjB; have qmK := qaa.mk qjA; clear qjB qjA; have qmL := qaa.mk qjD; have qmM := qaa.mk qjC; clear qjD qjC; have qmN := qaa.mk qjF; have qmO := qaa.mk qjE; clear qjF qjE; replace p190 := eq_true p190; replace q190 := eq_true q190
          go_wp2_with (first | ((with_reducible refine qaz (f := 76) rfl ?_); refine qbd (some 44) rfl rfl Try.func76 (by kernel_rfl) rfl #[.agg #[.slice qn1 ((qak l0_0 x5_2).f0).length qn2, .slice qn3 ((qak l0_0 x5_2).f1).length qn4, .slice qn5 ((qak l0_0 x5_2).f2).length qn6, .int .i64 ((qak l0_0 x5_2).f3), .int .i64 ((qak l0_0 x5_2).f4)]] rfl (by (try simp only [List.map_toArray, List.map_cons, List.map_nil]); first | done | rfl | (simp only [List.length_drop, List.length_take]; rfl)) ?_; (with_reducible refine (qan.calls kj10 _ _ ((qak l0_0 x5_2).f0) _ _ ((qak l0_0 x5_2).f1) _ _ ((qak l0_0 x5_2).f2) ((qak l0_0 x5_2).f3) ((qak l0_0 x5_2).f4) false _ ?side1 ?side2 ?side3 ?side4 ?side5 ?side6 A16.out).mono ?_); (case side1 => repeat (first | exact (Kd.C_below qmJ.out HB.out) | (with_reducible refine Kd.C_alloc ?_ _) | (with_reducible refine Kd.C_drewN ?_ _) | (with_reducible refine Kd.C_drew ?_))); (case side2 => exact qmK.out); (case side3 => repeat (first | exact (Kd.C_below qmL.out HB.out) | (with_reducible refine Kd.C_alloc ?_ _) | (with_reducible refine Kd.C_drewN ?_ _) | (with_reducible refine Kd.C_drew ?_))); (case side4 => exact qmM.out); (case side5 => repeat (first | exact (Kd.C_below qmN.out HB.out) | (with_reducible refine Kd.C_alloc ?_ _) | (with_reducible refine Kd.C_drewN ?_ _) | (with_reducible refine Kd.C_drew ?_))); (case side6 => exact qmO.out); rintro e w24 ⟨rfl, hb⟩; refine ⟨_, rfl, ?_⟩; have n0_ := qaa.mk (qam (g := qdb) (o := .cells #[.slice (some qnm) l0_0.length c0_0, .slice A0_1 l0_1.length c0_1, .slice A0_2 l0_2.length c0_2] 47 (0, 0)) (by (with_reducible repeat (first | refine qae ?_ _ | refine qai ?_ | refine qad ?_ _)); exact qbt.out) hb); have n1_ := qaa.mk (qap (by repeat (first | (with_reducible first | exact HB.out | apply qac | apply qab | apply qag | refine qah ?_ qd1.out) | exact HB.out)) hb); clear qbt; clear HB; have qbt := n0_; have HB := n1_; clear n0_ n1_; (try clear hb); (try clear hb2); (try clear hk); (try clear hi)))
          go_roundg kj10
          case measure => have := HJ1.out; have := HK2.out; have := HJ10.out; omega
          case rel => exact ⟨(false), (wrap64 (x5_2 + 1)), (by first | rfl | (simp; done) | (simp [*]; done)), (by first | rfl | (simp; done) | (simp [*]; done)), H', ⟨by have := HJ1.out; have := HK2.out; have := HJ10.out; omega⟩, ⟨by (with_reducible repeat (first | refine qae ?_ _ | refine qai ?_ | refine qad ?_ _)); exact qbt.out⟩, ⟨by repeat (first | (with_reducible first | exact HB.out | apply qac | apply qab | apply qag | refine qah ?_ qd1.out) | exact HB.out)⟩⟩
         rw [if_neg c15] at H
         exact absurd H (by simp)
        rw [if_neg c14] at H
        exact absurd H (by simp)
       replace c13 := Bool.eq_false_iff.mpr c13; subst c13
       have H1 : (qau.l1 kj10 (l0_0.length : Int) x4_2 l0_2 (l0_2.length : Int) 0 l0_0 l0_1 l0_2) = some r := by rw [if_neg (show ¬ (false = true) by decide)] at H; exact H
       clear H; have H := H1; clear H1; have H' := qaa.mk H; clear H; have qik : wc.cell? ⟨qdb, 0, none⟩ = some (.slice A0_0 l0_0.length c0_0) := (qaf qbt.out 0).trans rfl; have qil : wc.cell? ⟨qdb, 1, none⟩ = some (.slice A0_1 l0_1.length c0_1) := (qaf qbt.out 1).trans rfl; have qim : wc.cell? ⟨qdb, 2, none⟩ = some (.slice A0_2 l0_2.length c0_2) := (qaf qbt.out 2).trans rfl; have qin := qaj qbt.out 0; have qio := qaj qbt.out 1; have qip := qaj qbt.out 2
       go_wp2
       go_loopg [4, 56] kj10 (fun kq v4 v56 w' => ∃ (x4_4 : Bool) (qbc : Int), v4 = .bool x4_4 ∧ v56 = .int .i64 qbc ∧ qaa (qau.l1 kq (l0_0.length : Int) x4_4 l0_2 (l0_2.length : Int) qbc l0_0 l0_1 l0_2 = some r) ∧ qaa (kq ≤ kj10) ∧ qaa (w'.heap[qdb]? = some (.cells #[(.slice A0_0 l0_0.length c0_0), (.slice A0_1 l0_1.length c0_1), (.slice A0_2 l0_2.length c0_2)] 47 (0, 0))) ∧ qaa (Below w.heap.size w w'))
       case atStart => exact ⟨(x4_2), (0), (by first | rfl | (simp; done) | (simp [*]; done)), (by first | rfl | (simp; done) | (simp [*]; done)), H', ⟨Nat.le_refl _⟩, ⟨by (with_reducible repeat (first | refine qae ?_ _ | refine qai ?_ | refine qad ?_ _)); exact qbt.out⟩, ⟨by repeat (first | (with_reducible first | exact HB.out | apply qac | apply qab | apply qag | refine qah ?_ qd1.out) | exact HB.out)⟩⟩
       case round =>
        clear H'; (try clear c1); (try clear p1); (try clear q1); (try clear hx1); (try clear p2); (try clear c3); (try clear c6); (try clear p6); (try clear c7); (try clear c7b0); (try clear c7b1); (try clear c7b2); (try clear c12); (try clear c13); (try clear c14); (try clear c14b0); (try clear c15); (try clear c15b0); (try clear c17); (try clear c18); (try clear c18b0); (try clear c19); (try clear p19); (try clear q19); (try clear hx19); (try clear qeV); (try clear qeW); (try clear qfi); (try clear qju); (try clear qjv); (try clear qjw); (try clear qhv); (try clear qhw); (try clear qhx); (try clear qjG); (try clear qjH); (try clear qjI); (try clear qik); (try clear qil); (try clear qim); (try clear qdV); (try clear qdW); (try clear qd6); (try clear qe2); (try clear qe3); (try clear qe4); (try clear qeX); (try clear qeY); (try clear qfj); (try clear qjx); (try clear qjy); (try clear qjz); (try clear qhy); (try clear qhz); (try clear qhA); (try clear qjJ); (try clear qjK); (try clear qjL); (try clear qin); (try clear qio); (try clear qip); (try clear qdX); (try clear qdY); (try clear qd7); (try clear qe5); (try clear qe6); (try clear qe7); (try clear qfk); (try clear qfl); (try clear qfm); (try clear qfn); (try clear qfo); (try clear qg9); (try clear p190); (try clear p192); (try clear p2); (try clear q190); (try clear q192); obtain ⟨x4_4, qbc, rfl, rfl, HA, HK4, qbt, HB⟩ := hrel
        cases gk with
        | zero => exact absurd HA.out (by simp [qau.l1])
        | succ k4 =>
         have H := HA.out; clear HA; simp only [qau.l1] at H
         by_cases c26 : qbc < (l0_2.length : Int)
         ·
          rw [if_pos c26] at H; have c26b0 : decide (qbc < (l0_2.length : Int)) = true := decide_eq_true c26; clear c26
          by_cases c27 : 0 ≤ qbc
          ·
           rw [if_pos c27] at H; have c27b0 : decide (0 ≤ qbc) = true := decide_eq_true c27; clear c27
           by_cases c28 : qbc < (l0_2.length : Int)
           ·
            rw [if_pos c28] at H; have c28b0 : decide (qbc < (l0_2.length : Int)) = true := decide_eq_true c28; clear c28; have HC29 := qaa.mk H; clear H; have p194 : 0 ≤ (qbc : Int) := of_decide_eq_true (by first | (with_reducible assumption) | assumption); have q194 : qbc < (l0_2.length : Int) := of_decide_eq_true (by first | (with_reducible assumption) | assumption); obtain ⟨qkC, qCr, qCs, e194, qhE, qoT, qoU⟩ := qpu qb8.out qbc p194 q194; cases e194; replace qhE := (HB.out.cell (World.block_lt_of_cell? w _ qhE)).trans qhE; have qtZ := qaa.mk qoU; have qy6 := qaa.mk qoT; clear qoU qoT; replace p194 := eq_true p194; replace q194 := eq_true q194
            go_upto_region 10 with (fail)
            go_cut [4] (fun v4 wc => ∃ (kq : Nat) (qnn : Bool), v4 = .bool qnn ∧ qaa (qau.j4 kq (l0_0.length : Int) qnn (qaA l0_2 qbc) l0_2 (l0_2.length : Int) qbc l0_0 l0_1 l0_2 = some r) ∧ qaa (kq ≤ k4) ∧ qaa (wc.heap[qdb]? = some (.cells #[(.slice A0_0 l0_0.length c0_0), (.slice A0_1 l0_1.length c0_1), (.slice (some qkC) l0_2.length c0_2)] 47 (0, 0))) ∧ qaa (Below w.heap.size w wc))
            case first =>
             have H := HC29.out; clear HC29
             by_cases c30 : x4_4 = true
             ·
              subst c30
              have H1 : (qau.j4 k4 (l0_0.length : Int) (((qaA l0_2 qbc).length : Int) == (l0_0.length : Int)) (qaA l0_2 qbc) l0_2 (l0_2.length : Int) qbc l0_0 l0_1 l0_2) = some r := by rw [if_pos rfl] at H; exact H
              clear H; have H := H1; clear H1; have H' := qaa.mk H; clear H
              go_wp2
              go_meet
              case rel => exact ⟨_, ((((qaA l0_2 qbc).length : Int) == (l0_0.length : Int))), (by first | rfl | (simp; done) | (simp [*]; done)), H', ⟨by have := HJ1.out; have := HK2.out; have := HJ10.out; have := HK4.out; first | omega | exact Nat.le_refl _⟩, ⟨by (with_reducible repeat (first | refine qae ?_ _ | refine qai ?_ | refine qad ?_ _)); exact qbt.out⟩, ⟨by repeat (first | (with_reducible first | exact HB.out | apply qac | apply qab | apply qag | refine qah ?_ qd1.out) | exact HB.out)⟩⟩
             replace c30 := Bool.eq_false_iff.mpr c30; subst c30
             have H1 : (qau.j4 k4 (l0_0.length : Int) false (qaA l0_2 qbc) l0_2 (l0_2.length : Int) qbc l0_0 l0_1 l0_2) = some r := by rw [if_neg (show ¬ (false = true) by decide)] at H; exact H
             clear H; have H := H1; clear H1; have H' := qaa.mk H; clear H
             go_wp2
             go_meet
             case rel => exact ⟨_, (false), (by first | rfl | (simp; done) | (simp [*]; done)), H', ⟨by have := HJ1.out; have := HK2.out; have := HJ10.out; have := HK4.out; first | omega | exact Nat.le_refl _⟩, ⟨by (with_reducible repeat (first | refine qae ?_ _ | refine qai ?_ | refine qad ?_ _)); exact qbt.out⟩, ⟨by repeat (first | (with_reducible first | exact HB.out | apply qac | apply qab | apply qag | refine qah ?_ qd1.out) | exact HB.out)⟩⟩
            case rest =>
             clear HC29; (try clear c1); (try clear p1); (try clear q1); (try clear hx1); (try clear c2); (try clear p2); (try clear c3); (try clear c6); (try clear p6); (try clear c7); (try clear c7b0); (try clear c7b1); (try clear c7b2); (try clear c12); (try clear c13); (try clear c14); (try clear c14b0); (try clear c15); (try clear c15b0); (try clear c17); (try clear c18); (try clear c18b0); (try clear c19); (try clear p19); (try clear q19); (try clear hx19); (try clear c26); (try clear c26b0); (try clear c27); (try clear c27b0); (try clear c28); (try clear c28b0); (try clear c30); (try clear qeV); (try clear qeW); (try clear qfi); (try clear qju); (try clear qjv); (try clear qjw); (try clear qhv); (try clear qhw); (try clear qhx); (try clear qjG); (try clear qjH); (try clear qjI); (try clear qik); (try clear qil); (try clear qim); (try clear qdV); (try clear qdW); (try clear qd6); (try clear qe2); (try clear qe3); (try clear qe4); (try clear qeX); (try clear qeY); (try clear qfj); (try clear qjx); (try clear qjy); (try clear qjz); (try clear qhy); (try clear qhz); (try clear qhA); (try clear qjJ); (try clear qjK); (try clear qjL); (try clear qin); (try clear qio); (try clear qip); (try clear qdX); (try clear qdY); (try clear qd7); (try clear qe5); (try clear qe6); (try clear qe7); (try clear qfk); (try clear qfl); (try clear qfm); (try clear qfn); (try clear qfo); (try clear qg9); (try clear qhE); (try clear p1); (try clear p19); (try clear p190); (try clear p192); (try clear p194); (try clear p2); (try clear p6); (try clear q1); (try clear q19); (try clear q190); (try clear q192); (try clear q194); obtain ⟨kq, qnn, rfl, HA, HJ28, qbt, HB⟩ := hcut
             cases kq with
             | zero => exact absurd HA.out (by simp [qau.j4])
             | succ kj28 =>
              have H := HA.out; clear HA; simp only [qau.j4] at H; have H' := qaa.mk H; clear H
              go_wp2
              go_loopg [4, 69] kj28 (fun kq v4 v69 w' => ∃ (x4_6 : Bool) (qb1 : Int), v4 = .bool x4_6 ∧ v69 = .int .i64 qb1 ∧ qaa (qau.l2 kq (l0_0.length : Int) x4_6 l0_2 (l0_2.length : Int) qbc (qaA l0_2 qbc) ((qaA l0_2 qbc).length : Int) qb1 l0_0 l0_1 l0_2 = some r) ∧ qaa (kq ≤ kj28) ∧ qaa (w'.heap[qdb]? = some (.cells #[(.slice A0_0 l0_0.length c0_0), (.slice A0_1 l0_1.length c0_1), (.slice (some qkC) l0_2.length c0_2)] 47 (0, 0))) ∧ qaa (Below w.heap.size w w'))
              case atStart => exact ⟨(qnn), (0), (by first | rfl | (simp; done) | (simp [*]; done)), (by first | rfl | (simp; done) | (simp [*]; done)), H', ⟨Nat.le_refl _⟩, ⟨by (with_reducible repeat (first | refine qae ?_ _ | refine qai ?_ | refine qad ?_ _)); exact qbt.out⟩, ⟨by repeat (first | (with_reducible first | exact HB.out | apply qac | apply qab | apply qag | refine qah ?_ qd1.out) | exact HB.out)⟩⟩
              case round =>
               clear H'; (try clear c1); (try clear p1); (try clear q1); (try clear hx1); (try clear c2); (try clear p2); (try clear c3); (try clear c6); (try clear p6); (try clear c7); (try clear c7b0); (try clear c7b1); (try clear c7b2); (try clear c12); (try clear c13); (try clear c14); (try clear c14b0); (try clear c15); (try clear c15b0); (try clear c17); (try clear c18); (try clear c18b0); (try clear c19); (try clear p19); (try clear q19); (try clear hx19); (try clear c26); (try clear c26b0); (try clear c27); (try clear c27b0); (try clear c28); (try clear c28b0); (try clear c30); (try clear qeV); (try clear qeW); (try clear qfi); (try clear qju); (try clear qjv); (try clear qjw); (try clear qhv); (try clear qhw); (try clear qhx); (try clear qjG); (try clear qjH); (try clear qjI); (try clear qik); (try clear qil); (try clear qim); (try clear qdV); (try clear qdW); (try clear qd6); (try clear qe2); (try clear qe3); (try clear qe4); (try clear qeX); (try clear qeY); (try clear qfj); (try clear qjx); (try clear qjy); (try clear qjz); (try clear qhy); (try clear qhz); (try clear qhA); (try clear qjJ); (try clear qjK); (try clear qjL); (try clear qin); (try clear qio); (try clear qip); (try clear qdX); (try clear qdY); (try clear qd7); (try clear qe5); (try clear qe6); (try clear qe7); (try clear qfk); (try clear qfl); (try clear qfm); (try clear qfn); (try clear qfo); (try clear qg9); (try clear qhE); (try clear p1); (try clear p19); (try clear p190); (try clear p192); (try clear p194); (try clear p2); (try clear p6); (try clear q1); (try clear q19); (try clear q190); (try clear q192); (try clear q194); obtain ⟨x4_6, qb1, rfl, rfl, HA, HK6, qbt, HB⟩ := hrel
               cases gk with
               | zero => exact absurd HA.out (by simp [qau.l2])
               | succ k6 =>
                have H := HA.out; clear HA; simp only [qau.l2] at H
                by_cases c31 : qb1 < ((qaA l0_2 qbc).length : Int)
                ·
                 rw [if_pos c31] at H; have c31b0 : decide (qb1 < ((qaA l0_2 qbc).length : Int)) = true := decide_eq_true c31; clear c31
                 by_cases c32 : 0 ≤ qb1
                 ·
                  rw [if_pos c32] at H; have c32b0 : decide (0 ≤ qb1) = true := decide_eq_true c32; clear c32
                  by_cases c33 : qb1 < ((qaA l0_2 qbc).length : Int)
                  ·
                   rw [if_pos c33] at H; have c33b0 : decide (qb1 < ((qaA l0_2 qbc).length : Int)) = true := decide_eq_true c33; clear c33; have HC34 := qaa.mk H; clear H; have p195 : 0 ≤ (qb1 : Int) := of_decide_eq_true (by first | (with_reducible assumption) | assumption); have q195 : qb1 < ((qaA l0_2 qbc).length : Int) := of_decide_eq_true (by first | (with_reducible assumption) | assumption); obtain ⟨qD7, qCt, qCu, e195, qjM, qoV, qoW⟩ := qnf qtZ.out qb1 p195 q195; cases e195; replace qjM := (HB.out.cell (World.block_lt_of_cell? w _ qjM)).trans qjM; have qoX := qaa.mk qoW; have qy7 := qaa.mk qoV; clear qoW qoV; replace p195 := eq_true p195; replace q195 := eq_true q195
                   go_upto_region 14 with (fail)
                   go_cut [4] (fun v4 wc => ∃ (kq : Nat) (qno : Bool), v4 = .bool qno ∧ qaa (qau.j6 kq (l0_0.length : Int) qno (qaT (qaA l0_2 qbc) qb1) l0_2 (l0_2.length : Int) qbc (qaA l0_2 qbc) ((qaA l0_2 qbc).length : Int) qb1 l0_0 l0_1 l0_2 = some r) ∧ qaa (kq ≤ k6) ∧ qaa (wc.heap[qdb]? = some (.cells #[(.slice A0_0 l0_0.length c0_0), (.slice A0_1 l0_1.length c0_1), (.slice (some qkC) l0_2.length c0_2)] 47 (0, 0))) ∧ qaa (Below w.heap.size w wc))
                   case first =>
                    have H := HC34.out; clear HC34
                    by_cases c35 : x4_6 = true
                    ·
                     subst c35
                     have H1 : ((qat.f ((qaT (qaA l0_2 qbc) qb1).length : Int) 1 10).bind fun t196 => (if t196 = true then (if 0 < (l0_2.length : Int) then (if 0 < ((qaA l0_2 0).length : Int) then (qau.j6 k6 (l0_0.length : Int) (((qaT (qaA l0_2 qbc) qb1).length : Int) == ((qaT (qaA l0_2 0) 0).length : Int)) (qaT (qaA l0_2 qbc) qb1) l0_2 (l0_2.length : Int) qbc (qaA l0_2 qbc) ((qaA l0_2 qbc).length : Int) qb1 l0_0 l0_1 l0_2) else (none)) else (none)) else (qau.j6 k6 (l0_0.length : Int) false (qaT (qaA l0_2 qbc) qb1) l0_2 (l0_2.length : Int) qbc (qaA l0_2 qbc) ((qaA l0_2 qbc).length : Int) qb1 l0_0 l0_1 l0_2))) = some r := by rw [if_pos rfl] at H; exact H
                     clear H; have H := H1; clear H1; replace H := Option.bind_eq_some_iff.mp H; obtain ⟨t196, A360, H⟩ := H; replace H : (if t196 = true then (if 0 < (l0_2.length : Int) then (if 0 < ((qaA l0_2 0).length : Int) then (qau.j6 k6 (l0_0.length : Int) (((qaT (qaA l0_2 qbc) qb1).length : Int) == ((qaT (qaA l0_2 0) 0).length : Int)) (qaT (qaA l0_2 qbc) qb1) l0_2 (l0_2.length : Int) qbc (qaA l0_2 qbc) ((qaA l0_2 qbc).length : Int) qb1 l0_0 l0_1 l0_2) else (none)) else (none)) else (qau.j6 k6 (l0_0.length : Int) false (qaT (qaA l0_2 qbc) qb1) l0_2 (l0_2.length : Int) qbc (qaA l0_2 qbc) ((qaA l0_2 qbc).length : Int) qb1 l0_0 l0_1 l0_2)) = some r := H; have A36 := qaa.mk A360; clear A360
                     by_cases c37 : t196 = true
                     ·
                      subst c37
                      have H1 : (if 0 < (l0_2.length : Int) then (if 0 < ((qaA l0_2 0).length : Int) then (qau.j6 k6 (l0_0.length : Int) (((qaT (qaA l0_2 qbc) qb1).length : Int) == ((qaT (qaA l0_2 0) 0).length : Int)) (qaT (qaA l0_2 qbc) qb1) l0_2 (l0_2.length : Int) qbc (qaA l0_2 qbc) ((qaA l0_2 qbc).length : Int) qb1 l0_0 l0_1 l0_2) else (none)) else (none)) = some r := by rw [if_pos rfl] at H; exact H
                      clear H; have H := H1; clear H1
                      by_cases c38 : 0 < (l0_2.length : Int)
                      ·
                       rw [if_pos c38] at H; have c38b0 : decide (0 < (l0_2.length : Int)) = true := decide_eq_true c38; have c38b1 : decide (0 < l0_2.length) = true := decide_eq_true (by omega); clear c38
                       (first | rw [c38b0] | (simp only [qaQ, qaU]; rw [c38b0]) | skip)
                       by_cases c39 : 0 < ((qaA l0_2 0).length : Int)
                       ·
                        rw [if_pos c39] at H; have c39b0 : decide (0 < ((qaA l0_2 0).length : Int)) = true := decide_eq_true c39; have c39b1 : decide (0 < (qaA l0_2 0).length) = true := decide_eq_true (by omega); clear c39; have H' := qaa.mk H; clear H
                        go_wp2_with (first | (go_at_call 65; (with_reducible refine (qat.calls ((qaT (qaA l0_2 qbc) qb1).length : Int) 1 10 true _ A36.out).mono ?_); rintro e w' ⟨rfl, ⟨nd, rfl⟩⟩; have qkk : wr.cell? ⟨qdb, 0, none⟩ = some (.slice A0_0 l0_0.length c0_0) := (qaf qbt.out 0).trans rfl; have qkl : wr.cell? ⟨qdb, 1, none⟩ = some (.slice A0_1 l0_1.length c0_1) := (qaf qbt.out 1).trans rfl; have qkm : wr.cell? ⟨qdb, 2, none⟩ = some (.slice (some qkC) l0_2.length c0_2) := (qaf qbt.out 2).trans rfl; have qkn := qaj qbt.out 0; have qko := qaj qbt.out 1; have qkp := qaj qbt.out 2; have p197 : 0 ≤ (0 : Int) := (by omega); have q197 : 0 < (l0_2.length : Int) := of_decide_eq_true (by first | (with_reducible assumption) | assumption); obtain ⟨qvQ, qCv, qCw, e197, qhF, qoY, qoZ⟩ := qpu qb8.out 0 p197 q197; obtain rfl : qkC = qvQ := (by injection e197); have qD8 : (0 < l0_2.length) = True := eq_true (by omega); (try rw [show ((0 : Int)).toNat = 0 from rfl] at qhF); (try rw [Addr.add_zero'] at qhF); replace qhF := (HB.out.cell (World.block_lt_of_cell? w _ qhF)).trans qhF; have qt0 := qaa.mk qoZ; have qy8 := qaa.mk qoY; clear qoZ qoY; replace p197 := eq_true p197; replace q197 := eq_true q197; have p198 : 0 ≤ (0 : Int) := (by omega); have q198 : 0 < ((qaA l0_2 0).length : Int) := of_decide_eq_true (by first | (with_reducible assumption) | assumption); obtain ⟨qD9, qCx, qCy, e198, qhG, qo0, qo1⟩ := qnf qt0.out 0 p198 q198; cases e198; have qEa : (0 < (qaA l0_2 0).length) = True := eq_true (by omega); (try rw [show ((0 : Int)).toNat = 0 from rfl] at qhG); (try rw [Addr.add_zero'] at qhG); replace qhG := (HB.out.cell (World.block_lt_of_cell? w _ qhG)).trans qhG; have qy9 := qaa.mk qo1; have qza := qaa.mk qo0; clear qo1 qo0; replace p198 := eq_true p198; replace q198 := eq_true q198))
                        go_meet
                        case rel => exact ⟨_, ((((qaT (qaA l0_2 qbc) qb1).length : Int) == ((qaT (qaA l0_2 0) 0).length : Int))), (by first | rfl | (simp; done) | (simp [*]; done)), H', ⟨by have := HJ1.out; have := HK2.out; have := HJ10.out; have := HK4.out; have := HJ28.out; have := HK6.out; first | omega | exact Nat.le_refl _⟩, ⟨by (with_reducible repeat (first | refine qae ?_ _ | refine qai ?_ | refine qad ?_ _)); exact qbt.out⟩, ⟨by repeat (first | (with_reducible first | exact HB.out | apply qac | apply qab | apply qag | refine qah ?_ qd1.out) | exact HB.out)⟩⟩
                       rw [if_neg c39] at H
                       exact absurd H (by simp)
                      rw [if_neg c38] at H
                      exact absurd H (by simp)
                     replace c37 := Bool.eq_false_iff.mpr c37; subst c37
                     have H1 : (qau.j6 k6 (l0_0.length : Int) false (qaT (qaA l0_2 qbc) qb1) l0_2 (l0_2.length : Int) qbc (qaA l0_2 qbc) ((qaA l0_2 qbc).length : Int) qb1 l0_0 l0_1 l0_2) = some r := by rw [if_neg (show ¬ (false = true) by decide)] at H; exact H
                     clear H; have H := H1; clear H1; have H' := qaa.mk H; clear H
                     go_wp2_with (first | (go_at_call 65; (with_reducible refine (qat.calls ((qaT (qaA l0_2 qbc) qb1).length : Int) 1 10 false _ A36.out).mono ?_); rintro e w' ⟨rfl, ⟨nd, rfl⟩⟩))
                     go_meet
                     case rel => exact ⟨_, (false), (by first | rfl | (simp; done) | (simp [*]; done)), H', ⟨by have := HJ1.out; have := HK2.out; have := HJ10.out; have := HK4.out; have := HJ28.out; have := HK6.out; first | omega | exact Nat.le_refl _⟩, ⟨by (with_reducible repeat (first | refine qae ?_ _ | refine qai ?_ | refine qad ?_ _)); exact qbt.out⟩, ⟨by repeat (first | (with_reducible first | exact HB.out | apply qac | apply qab | apply qag | refine qah ?_ qd1.out) | exact HB.out)⟩⟩
                    replace c35 := Bool.eq_false_iff.mpr c35; subst c35
                    have H1 : (qau.j6 k6 (l0_0.length : Int) false (qaT (qaA l0_2 qbc) qb1) l0_2 (l0_2.length : Int) qbc (qaA l0_2 qbc) ((qaA l0_2 qbc).length : Int) qb1 l0_0 l0_1 l0_2) = some r := by rw [if_neg (show ¬ (false = true) by decide)] at H; exact H
                    clear H; have H := H1; clear H1; have H' := qaa.mk H; clear H
                    go_wp2
                    go_meet
                    case rel => exact ⟨_, (false), (by first | rfl | (simp; done) | (simp [*]; done)), H', ⟨by have := HJ1.out; have := HK2.out; have := HJ10.out; have := HK4.out; have := HJ28.out; have := HK6.out; first | omega | exact Nat.le_refl _⟩, ⟨by (with_reducible repeat (first | refine qae ?_ _ | refine qai ?_ | refine qad ?_ _)); exact qbt.out⟩, ⟨by repeat (first | (with_reducible first | exact HB.out | apply qac | apply qab | apply qag | refine qah ?_ qd1.out) | exact HB.out)⟩⟩
                   case rest =>
                    clear HC34; (try clear c1); (try clear p1); (try clear q1); (try clear hx1); (try clear qi1); (try clear c2); (try clear p2); (try clear c3); (try clear c6); (try clear p6); (try clear c7); (try clear c7b0); (try clear c7b1); (try clear c7b2); (try clear c12); (try clear c13); (try clear c14); (try clear c14b0); (try clear c15); (try clear c15b0); (try clear c17); (try clear c18); (try clear c18b0); (try clear c19); (try clear p19); (try clear q19); (try clear hx19); (try clear qi19); (try clear c26); (try clear c26b0); (try clear c27); (try clear c27b0); (try clear c28); (try clear c28b0); (try clear c30); (try clear c31); (try clear c31b0); (try clear c32); (try clear c32b0); (try clear c33); (try clear c33b0); (try clear c35); (try clear c37); (try clear c38); (try clear c38b0); (try clear c38b1); (try clear c39); (try clear c39b0); (try clear c39b1); (try clear qeV); (try clear qeW); (try clear qfi); (try clear qju); (try clear qjv); (try clear qjw); (try clear qhv); (try clear qhw); (try clear qhx); (try clear qjG); (try clear qjH); (try clear qjI); (try clear qik); (try clear qil); (try clear qim); (try clear qkk); (try clear qkl); (try clear qkm); (try clear qdV); (try clear qdW); (try clear qd6); (try clear qe2); (try clear qe3); (try clear qe4); (try clear qeX); (try clear qeY); (try clear qfj); (try clear qjx); (try clear qjy); (try clear qjz); (try clear qhy); (try clear qhz); (try clear qhA); (try clear qjJ); (try clear qjK); (try clear qjL); (try clear qin); (try clear qio); (try clear qip); (try clear qkn); (try clear qko); (try clear qkp); (try clear qdX); (try clear qdY); (try clear qd7); (try clear qe5); (try clear qe6); (try clear qe7); (try clear qfk); (try clear qfl); (try clear qfm); (try clear qfn); (try clear qfo); (try clear qg9); (try clear qhE); (try clear qjM); (try clear qhF); (try clear qhG); (try clear p1); (try clear p19); (try clear p190); (try clear p192); (try clear p194); (try clear p195); (try clear p197); (try clear p198); (try clear p2); (try clear p6); (try clear q1); (try clear q19); (try clear q190); (try clear q192); (try clear q194); (try clear q195); (try clear q197); (try clear q198); obtain ⟨kq, qno, rfl, HA, HJ33, qbt, HB⟩ := hcut
                    cases kq with
                    | zero => exact absurd HA.out (by simp [qau.j6])
                    | succ kj33 =>
                     have H := HA.out; clear HA; simp only [qau.j6] at H; have H' := qaa.mk H; clear H
                     go_wp2
                     go_loopg [4, 93] kj33 (fun kq v4 v93 w' => ∃ (x4_8 : Bool) (qd9 : Int), v4 = .bool x4_8 ∧ v93 = .int .i64 qd9 ∧ qaa (qau.l3 kq (l0_0.length : Int) x4_8 l0_2 (l0_2.length : Int) qbc (qaA l0_2 qbc) ((qaA l0_2 qbc).length : Int) qb1 (qaT (qaA l0_2 qbc) qb1) ((qaT (qaA l0_2 qbc) qb1).length : Int) qd9 l0_0 l0_1 l0_2 = some r) ∧ qaa (kq ≤ kj33) ∧ qaa (w'.heap[qdb]? = some (.cells #[(.slice A0_0 l0_0.length c0_0), (.slice A0_1 l0_1.length c0_1), (.slice (some qkC) l0_2.length c0_2)] 47 (0, 0))) ∧ qaa (Below w.heap.size w w'))
                     case atStart => exact ⟨(qno), (0), (by first | rfl | (simp; done) | (simp [*]; done)), (by first | rfl | (simp; done) | (simp [*]; done)), H', ⟨Nat.le_refl _⟩, ⟨by (with_reducible repeat (first | refine qae ?_ _ | refine qai ?_ | refine qad ?_ _)); exact qbt.out⟩, ⟨by repeat (first | (with_reducible first | exact HB.out | apply qac | apply qab | apply qag | refine qah ?_ qd1.out) | exact HB.out)⟩⟩
                     case round =>
                      clear H'; (try clear c1); (try clear p1); (try clear q1); (try clear hx1); (try clear qi1); (try clear c2); (try clear p2); (try clear c3); (try clear c6); (try clear p6); (try clear c7); (try clear c7b0); (try clear c7b1); (try clear c7b2); (try clear c12); (try clear c13); (try clear c14); (try clear c14b0); (try clear c15); (try clear c15b0); (try clear c17); (try clear c18); (try clear c18b0); (try clear c19); (try clear p19); (try clear q19); (try clear hx19); (try clear qi19); (try clear c26); (try clear c26b0); (try clear c27); (try clear c27b0); (try clear c28); (try clear c28b0); (try clear c30); (try clear c31); (try clear c31b0); (try clear c32); (try clear c32b0); (try clear c33); (try clear c33b0); (try clear c35); (try clear c37); (try clear c38); (try clear c38b0); (try clear c38b1); (try clear c39); (try clear c39b0); (try clear c39b1); (try clear qeV); (try clear qeW); (try clear qfi); (try clear qju); (try clear qjv); (try clear qjw); (try clear qhv); (try clear qhw); (try clear qhx); (try clear qjG); (try clear qjH); (try clear qjI); (try clear qik); (try clear qil); (try clear qim); (try clear qkk); (try clear qkl); (try clear qkm); (try clear qdV); (try clear qdW); (try clear qd6); (try clear qe2); (try clear qe3); (try clear qe4); (try clear qeX); (try clear qeY); (try clear qfj); (try clear qjx); (try clear qjy); (try clear qjz); (try clear qhy); (try clear qhz); (try clear qhA); (try clear qjJ); (try clear qjK); (try clear qjL); (try clear qin); (try clear qio); (try clear qip); (try clear qkn); (try clear qko); (try clear qkp); (try clear qdX); (try clear qdY); (try clear qd7); (try clear qe5); (try clear qe6); (try clear qe7); (try clear qfk); (try clear qfl); (try clear qfm); (try clear qfn); (try clear qfo); (try clear qg9); (try clear qhE); (try clear qjM); (try clear qhF); (try clear qhG); (try clear p1); (try clear p19); (try clear p190); (try clear p192); (try clear p194); (try clear p195); (try clear p197); (try clear p198); (try clear p2); (try clear p6); (try clear q1); (try clear q19); (try clear q190); (try clear q192); (try clear q194); (try clear q195); (try clear q197); (try clear q198); obtain ⟨x4_8, qd9, rfl, rfl, HA, HK8, qbt, HB⟩ := hrel
                      cases gk with
                      | zero => exact absurd HA.out (by simp [qau.l3])
                      | succ k8 =>
                       have H := HA.out; clear HA; simp only [qau.l3] at H
                       by_cases c41 : qd9 < ((qaT (qaA l0_2 qbc) qb1).length : Int)
                       ·
                        rw [if_pos c41] at H; have c41b0 : decide (qd9 < ((qaT (qaA l0_2 qbc) qb1).length : Int)) = true := decide_eq_true c41; clear c41
                        by_cases c42 : 0 ≤ qd9
                        ·
                         rw [if_pos c42] at H; have c42b0 : decide (0 ≤ qd9) = true := decide_eq_true c42; clear c42
                         by_cases c43 : qd9 < ((qaT (qaA l0_2 qbc) qb1).length : Int)
                         ·
                          rw [if_pos c43] at H; have c43b0 : decide (qd9 < ((qaT (qaA l0_2 qbc) qb1).length : Int)) = true := decide_eq_true c43; clear c43
                          by_cases c44 : x4_8 = true
                          ·
                           subst c44
                           have H1 : ((qat.f (rd (qaT (qaA l0_2 qbc) qb1) qd9) 0 100000).bind fun t200 => (qau.l3 k8 (l0_0.length : Int) t200 l0_2 (l0_2.length : Int) qbc (qaA l0_2 qbc) ((qaA l0_2 qbc).length : Int) qb1 (qaT (qaA l0_2 qbc) qb1) ((qaT (qaA l0_2 qbc) qb1).length : Int) (wrap64 (qd9 + 1)) l0_0 l0_1 l0_2)) = some r := by rw [if_pos rfl] at H; exact H
                           clear H; have H := H1; clear H1; replace H := Option.bind_eq_some_iff.mp H; obtain ⟨t200, A450, H⟩ := H; replace H : (qau.l3 k8 (l0_0.length : Int) t200 l0_2 (l0_2.length : Int) qbc (qaA l0_2 qbc) ((qaA l0_2 qbc).length : Int) qb1 (qaT (qaA l0_2 qbc) qb1) ((qaT (qaA l0_2 qbc) qb1).length : Int) (wrap64 (qd9 + 1)) l0_0 l0_1 l0_2) = some r := H; have A45 := qaa.mk A450; clear A450; have H' := qaa.mk H; clear H; have p199 : 0 ≤ (qd9 : Int) := of_decide_eq_true (by first | (with_reducible assumption) | assumption); have q199 : qd9 < ((qaT (qaA l0_2 qbc) qb1).length : Int) := of_decide_eq_true (by first | (with_reducible assumption) | assumption); obtain ⟨qvR, e199, qhH⟩ := Kd.at_int qoX.out qd9 p199 q199; cases e199; replace qhH := (HB.out.cell (World.block_lt_of_cell? w _ qhH)).trans qhH; replace p199 := eq_true p199; replace q199 := eq_true q199
                           go_wp2_with (first | (go_at_call 65; (with_reducible refine (qat.calls (rd (qaT (qaA l0_2 qbc) qb1) qd9) 0 100000 t200 _ A45.out).mono ?_); rintro e w' ⟨rfl, ⟨nd, rfl⟩⟩))
                           go_roundg k8
                           case measure => have := HJ1.out; have := HK2.out; have := HJ10.out; have := HK4.out; have := HJ28.out; have := HK6.out; have := HJ33.out; have := HK8.out; omega
                           case rel => exact ⟨(t200), (wrap64 (qd9 + 1)), (by first | rfl | (simp; done) | (simp [*]; done)), (by first | rfl | (simp; done) | (simp [*]; done)), H', ⟨by have := HJ1.out; have := HK2.out; have := HJ10.out; have := HK4.out; have := HJ28.out; have := HK6.out; have := HJ33.out; have := HK8.out; omega⟩, ⟨by (with_reducible repeat (first | refine qae ?_ _ | refine qai ?_ | refine qad ?_ _)); exact qbt.out⟩, ⟨by repeat (first | (with_reducible first | exact HB.out | apply qac | apply qab | apply qag | refine qah ?_ qd1.out) | exact HB.out)⟩⟩
                          replace c44 := Bool.eq_false_iff.mpr c44; subst c44
                          have H1 : (qau.l3 k8 (l0_0.length : Int) false l0_2 (l0_2.length : Int) qbc (qaA l0_2 qbc) ((qaA l0_2 qbc).length : Int) qb1 (qaT (qaA l0_2 qbc) qb1) ((qaT (qaA l0_2 qbc) qb1).length : Int) (wrap64 (qd9 + 1)) l0_0 l0_1 l0_2) = some r := by rw [if_neg (show ¬ (false = true) by decide)] at H; exact H
                          clear H; have H := H1; clear H1; have H' := qaa.mk H; clear H; have p199 : 0 ≤ (qd9 : Int) := of_decide_eq_true (by first | (with_reducible assumption) | assumption); have q199 : qd9 < ((qaT (qaA l0_2 qbc) qb1).length : Int) := of_decide_eq_true (by first | (with_reducible assumption) | assumption); obtain ⟨qvR, e199, qhH⟩ := Kd.at_int qoX.out qd9 p199 q199; cases e199; replace qhH := (HB.out.cell (World.block_lt_of_cell? w _ qhH)).trans qhH; replace p199 := eq_true p199; replace q199 := eq_true q199
                          go_wp2
                          go_roundg k8
                          case measure => have := HJ1.out; have := HK2.out; have := HJ10.out; have := HK4.out; have := HJ28.out; have := HK6.out; have := HJ33.out; have := HK8.out; omega
                          case rel => exact ⟨(false), (wrap64 (qd9 + 1)), (by first | rfl | (simp; done) | (simp [*]; done)), (by first | rfl | (simp; done) | (simp [*]; done)), H', ⟨by have := HJ1.out; have := HK2.out; have := HJ10.out; have := HK4.out; have := HJ28.out; have := HK6.out; have := HJ33.out; have := HK8.out; omega⟩, ⟨by (with_reducible repeat (first | refine qae ?_ _ | refine qai ?_ | refine qad ?_ _)); exact qbt.out⟩, ⟨by repeat (first | (with_reducible first | exact HB.out | apply qac | apply qab | apply qag | refine qah ?_ qd1.out) | exact HB.out)⟩⟩
                         rw [if_neg c43] at H
                         exact absurd H (by simp)
                        rw [if_neg c42] at H
                        exact absurd H (by simp)
                       rw [if_neg c41] at H; have c41b0 : decide (qd9 < ((qaT (qaA l0_2 qbc) qb1).length : Int)) = false := decide_eq_false c41; clear c41; have H' := qaa.mk H; clear H
                       go_wp2
                       go_roundg k8
                       case measure => have := HJ1.out; have := HK2.out; have := HJ10.out; have := HK4.out; have := HJ28.out; have := HK6.out; have := HJ33.out; have := HK8.out; omega
                       case rel => exact ⟨(x4_8), (wrap64 (qb1 + 1)), (by first | rfl | (simp; done) | (simp [*]; done)), (by first | rfl | (simp; done) | (simp [*]; done)), H', ⟨by have := HJ1.out; have := HK2.out; have := HJ10.out; have := HK4.out; have := HJ28.out; have := HK6.out; have := HJ33.out; have := HK8.out; omega⟩, ⟨by (with_reducible repeat (first | refine qae ?_ _ | refine qai ?_ | refine qad ?_ _)); exact qbt.out⟩, ⟨by repeat (first | (with_reducible first | exact HB.out | apply qac | apply qab | apply qag | refine qah ?_ qd1.out) | exact HB.out)⟩⟩
                  rw [if_neg c33] at H
                  exact absurd H (by simp)
                 rw [if_neg c32] at H
                 exact absurd H (by simp)
                rw [if_neg c31] at H; have c31b0 : decide (qb1 < ((qaA l0_2 qbc).length : Int)) = false := decide_eq_false c31; clear c31; have H' := qaa.mk H; clear H
                go_wp2
                go_roundg k6
                case measure => have := HJ1.out; have := HK2.out; have := HJ10.out; have := HK4.out; have := HJ28.out; have := HK6.out; omega
                case rel => exact ⟨(x4_6), (wrap64 (qbc + 1)), (by first | rfl | (simp; done) | (simp [*]; done)), (by first | rfl | (simp; done) | (simp [*]; done)), H', ⟨by have := HJ1.out; have := HK2.out; have := HJ10.out; have := HK4.out; have := HJ28.out; have := HK6.out; omega⟩, ⟨by (with_reducible repeat (first | refine qae ?_ _ | refine qai ?_ | refine qad ?_ _)); exact qbt.out⟩, ⟨by repeat (first | (with_reducible first | exact HB.out | apply qac | apply qab | apply qag | refine qah ?_ qd1.out) | exact HB.out)⟩⟩
           rw [if_neg c28] at H
           exact absurd H (by simp)
          rw [if_neg c27] at H
          exact absurd H (by simp)
         rw [if_neg c26] at H; have c26b0 : decide (qbc < (l0_2.length : Int)) = false := decide_eq_false c26; clear c26
         by_cases c46 : x4_4 = true
         ·
          subst c46
          have H1 : (some 0) = some r := by rw [if_pos rfl] at H; exact H
          clear H; have H := H1; clear H1; obtain rfl := Option.some.inj H
          go_wp2
          go_ret
          exact ⟨by first | rfl | (simp [qaC, qaB] <;> rfl) | (simp [*, qaC, qaB] <;> rfl), by repeat (first | (with_reducible first | exact HB.out | apply qac | apply qab | apply qag | refine qah ?_ qd1.out) | exact HB.out)⟩
         replace c46 := Bool.eq_false_iff.mpr c46; subst c46
         have H1 : (some 93) = some r := by rw [if_neg (show ¬ (false = true) by decide)] at H; exact H
         clear H; have H := H1; clear H1; obtain rfl := Option.some.inj H
         go_wp2
         go_ret
         exact ⟨by first | rfl | (simp [qaC, qaB] <;> rfl) | (simp [*, qaC, qaB] <;> rfl), by repeat (first | (with_reducible first | exact HB.out | apply qac | apply qab | apply qag | refine qah ?_ qd1.out) | exact HB.out)⟩
end Go.Proofs.Ytmhomdohhihlcaa.P
namespace Go.Proofs.Ytmhomdohhihlcaa.P
open Go.RowKit Go.Proofs.YtmhomdohhihlcaaW.PrintWords Go.Proofs.YtmhomdohhihlcaaW.PrintLast Go.Proofs.YtmhomdohhihlcaaW.PrintMore
theorem qql (b : Nat) (x q : Int) (w : World) (hq : w.cell? ⟨b, 0, none⟩ = some (.int .i64 q)) :
  Calls Try.prog 103 #[.int .i64 x, .pointer (some ⟨b, 0, none⟩)] w fun e w' => e = .returned (.bool (x != q)) ∧ w = w' := by
 go_enter Try.func103, Try.ntmps103
 go_wp2
 go_ret
 exact ⟨rfl, rfl⟩
set_option maxHeartbeats 4000000 in
set_option maxRecDepth 100000 in
theorem indexFunc_103.calls (A : Option Addr) (c : Nat) (l : List Int) (b : Nat) (q : Int) (w : World) (hr : Kd.C (Kd.int .i64) w A l.length l) (hq : w.cell? ⟨b, 0, none⟩ = some (.int .i64 q)) :
  Calls Try.prog 113 #[.slice A l.length c, .func (.func 103) #[] #[.pointer (some ⟨b, 0, none⟩)]] w fun e w' => (∃ r : Int, e = .returned (.int .i64 r) ∧ decide (0 ≤ r) = l.any (fun z => z != q)) ∧ qbn w w' := by
 have HR := qaa.mk hr
 have hmx : l.length ≤ 9223372036854775807 := hr.2.1
 clear hr
 go_enter Try.func113, Try.ntmps113
 go_wp2
 go_loopg [8] l.length (fun d v8 w' => ∃ (x : Int) (k : Nat), v8 = .int .i64 x ∧ qaa (x = (k : Int)) ∧ qaa (k + d = l.length) ∧ qaa ((l.take k).any (fun z => z != q) = false) ∧ qbn w w')
 case atStart => exact ⟨_, 0, rfl, ⟨rfl⟩, ⟨Nat.zero_add _⟩, ⟨by simp⟩, qbn.refl _⟩
 case round =>
  obtain ⟨x, k, rfl, HX, HD, HN, ⟨m1, rfl⟩⟩ := hrel
  by_cases hk : x < (l.length : Int)
  ·
   have hx0 : 0 ≤ x := by have := HX.out; omega
   obtain ⟨ad, ea, hA⟩ := Kd.at_int HR.out x hx0 hk
   subst ea
   have hkl : k < l.length := by have := HX.out; omega
   have HEL := qaa.mk (show rd l x = l[k] by rw [HX.out]; simp [rd, List.getD_eq_getElem?_getD, List.getElem?_eq_getElem hkl])
   have HTK := qaa.mk (show (l.take (k + 1)).any (fun z => z != q) = ((l.take k).any (fun z => z != q) || (fun z => z != q) (rd l x)) by rw [List.take_succ_eq_append_getElem hkl, List.any_append, HEL.out]; simp)
   by_cases hp : (fun z => z != q) (rd l x) = true
   ·
    have HP := qaa.mk hp; have hb : (rd l x != q) = true := HP.out; clear hp
    go_wp2_with (go_at_call 103; refine (qql b (rd l x) q _ ?hc).mono ?_; (case hc => simpa using hq); rintro e w1 ⟨rfl, rfl⟩)
    go_ret
    refine ⟨⟨_, rfl, ?_⟩, ⟨_, rfl⟩⟩; rw [decide_eq_true (by simpa using hx0)]
    symm
    rw [List.any_eq_true]
    exact ⟨l[k], List.getElem_mem hkl, HEL.out ▸ HP.out⟩
   ·
    have HP := qaa.mk (Bool.eq_false_iff.2 hp); have hb : (rd l x != q) = false := HP.out; clear hp
    cases gk with
    | zero => exact absurd hk (by have := HX.out; have := HD.out; omega)
    | succ d =>
     go_wp2_with (go_at_call 103; refine (qql b (rd l x) q _ ?hc).mono ?_; (case hc => simpa using hq); rintro e w1 ⟨rfl, rfl⟩)
     go_roundg d
     case measure => omega
     case rel => exact ⟨_, k + 1, rfl, ⟨by rw [HX.out]; rfl⟩, ⟨by have := HD.out; omega⟩, ⟨by rw [HTK.out, HN.out, HP.out]; rfl⟩, ⟨_, rfl⟩⟩
  ·
   go_wp2
   go_ret
   refine ⟨⟨_, rfl, ?_⟩, ⟨_, rfl⟩⟩
   have hkk : k = l.length := by have := HX.out; have := HD.out; omega
   have := HN.out
   rw [hkk, List.take_length] at this
   rw [this]
   rfl
set_option maxRecDepth 100000 in
theorem containsFunc_103.calls (A : Option Addr) (c : Nat) (l : List Int) (b : Nat) (q : Int) (w : World) (hr : Kd.C (Kd.int .i64) w A l.length l) (hq : w.cell? ⟨b, 0, none⟩ = some (.int .i64 q)) :
  Calls Try.prog 102 #[.slice A l.length c, .func (.func 103) #[] #[.pointer (some ⟨b, 0, none⟩)]] w fun e w' => e = .returned (.bool (l.any (fun z => z != q))) ∧ qbn w w' := by
 go_enter Try.func102, Try.ntmps102
 go_wp2_with (go_at_call 113; refine (indexFunc_103.calls A c l b q _ ?h1 ?h2).mono ?_; (case h1 => exact hr); (case h2 => exact hq); rintro e w' ⟨⟨r, rfl, hd⟩, ⟨n1, rfl⟩⟩; have HD := qaa.mk hd; clear hd)
 go_ret
 exact ⟨congrArg (fun b_ => Ending.returned (.bool b_)) HD.out, ⟨_, rfl⟩⟩
def qdJ.f (l0 : List Int) (a1 : Int) : Option Bool := some (l0.any (fun z => z != a1))
theorem containsG.calls (b : Nat) (A0 : Option Addr) (c0 n : Nat) (l0 : List Int) (a1 : Int) (r : Bool) (w : World) (hn : n = l0.length) (hr0 : Kd.C (Kd.int .i64) w A0 l0.length l0) (hc0 : l0.length ≤ c0) (hq : w.cell? ⟨b, 0, none⟩ = some (.int .i64 a1)) (h : qdJ.f l0 a1 = some r) :
  Calls Try.prog 102 #[.slice A0 n c0, .func (.func 103) #[] #[.pointer (some ⟨b, 0, none⟩)]] w fun e w' => e = .returned (.bool r) ∧ qbn w w' := by
 unfold qdJ.f at h
 injection h with h
 subst h hn
 exact containsFunc_103.calls A0 c0 l0 b a1 w hr0 hq
def qd4 (z : Int) : Bool := !(decide (0 ≤ z) && decide (z ≤ 100000))
theorem qqn (x : Int) (w : World) : Calls Try.prog 110 #[.int .i64 x] w fun e w' => e = .returned (.bool (qd4 x)) ∧ w = w' := by
 by_cases h1 : 0 ≤ x
 ·
  by_cases h2 : x ≤ 100000
  ·
   go_enter Try.func110, Try.ntmps110
   go_wp2
   go_ret
   exact ⟨by simp [qd4, h1, h2], rfl⟩
  ·
   go_enter Try.func110, Try.ntmps110
   go_wp2
   go_ret
   exact ⟨by simp [qd4, h1, h2], rfl⟩
 ·
  go_enter Try.func110, Try.ntmps110
  go_wp2
  go_ret
  exact ⟨by simp [qd4, h1], rfl⟩
set_option maxHeartbeats 4000000 in
set_option maxRecDepth 100000 in
theorem indexFunc_110.calls (A : Option Addr) (c : Nat) (l : List Int)  (w : World) (hr : Kd.C (Kd.int .i64) w A l.length l)  :
  Calls Try.prog 113 #[.slice A l.length c, .func (.func 110) #[] #[]] w fun e w' => (∃ r : Int, e = .returned (.int .i64 r) ∧ decide (0 ≤ r) = l.any qd4) ∧ qbn w w' := by
 have HR := qaa.mk hr
 have hmx : l.length ≤ 9223372036854775807 := hr.2.1
 clear hr
 go_enter Try.func113, Try.ntmps113
 go_wp2
 go_loopg [8] l.length (fun d v8 w' => ∃ (x : Int) (k : Nat), v8 = .int .i64 x ∧ qaa (x = (k : Int)) ∧ qaa (k + d = l.length) ∧ qaa ((l.take k).any qd4 = false) ∧ qbn w w')
 case atStart => exact ⟨_, 0, rfl, ⟨rfl⟩, ⟨Nat.zero_add _⟩, ⟨by simp⟩, qbn.refl _⟩
 case round =>
  obtain ⟨x, k, rfl, HX, HD, HN, ⟨m1, rfl⟩⟩ := hrel
  by_cases hk : x < (l.length : Int)
  ·
   have hx0 : 0 ≤ x := by have := HX.out; omega
   obtain ⟨ad, ea, hA⟩ := Kd.at_int HR.out x hx0 hk
   subst ea
   have hkl : k < l.length := by have := HX.out; omega
   have HEL := qaa.mk (show rd l x = l[k] by rw [HX.out]; simp [rd, List.getD_eq_getElem?_getD, List.getElem?_eq_getElem hkl])
   have HTK := qaa.mk (show (l.take (k + 1)).any qd4 = ((l.take k).any qd4 || qd4 (rd l x)) by rw [List.take_succ_eq_append_getElem hkl, List.any_append, HEL.out]; simp)
   by_cases hp : qd4 (rd l x) = true
   ·
    have HP := qaa.mk hp; have hb : qd4 (rd l x) = true := HP.out; clear hp
    go_wp2_with (go_at_call 110; refine (qqn (rd l x) _).mono ?_; rintro e w1 ⟨rfl, rfl⟩)
    go_ret
    refine ⟨⟨_, rfl, ?_⟩, ⟨_, rfl⟩⟩; rw [decide_eq_true (by simpa using hx0)]
    symm
    rw [List.any_eq_true]
    exact ⟨l[k], List.getElem_mem hkl, HEL.out ▸ HP.out⟩
   ·
    have HP := qaa.mk (Bool.eq_false_iff.2 hp); have hb : qd4 (rd l x) = false := HP.out; clear hp
    cases gk with
    | zero => exact absurd hk (by have := HX.out; have := HD.out; omega)
    | succ d =>
     go_wp2_with (go_at_call 110; refine (qqn (rd l x) _).mono ?_; rintro e w1 ⟨rfl, rfl⟩)
     go_roundg d
     case measure => omega
     case rel => exact ⟨_, k + 1, rfl, ⟨by rw [HX.out]; rfl⟩, ⟨by have := HD.out; omega⟩, ⟨by rw [HTK.out, HN.out, HP.out]; rfl⟩, ⟨_, rfl⟩⟩
  ·
   go_wp2
   go_ret
   refine ⟨⟨_, rfl, ?_⟩, ⟨_, rfl⟩⟩
   have hkk : k = l.length := by have := HX.out; have := HD.out; omega
   have := HN.out
   rw [hkk, List.take_length] at this
   rw [this]
   rfl
set_option maxRecDepth 100000 in
theorem containsFunc_110.calls (A : Option Addr) (c : Nat) (l : List Int)  (w : World) (hr : Kd.C (Kd.int .i64) w A l.length l)  :
  Calls Try.prog 102 #[.slice A l.length c, .func (.func 110) #[] #[]] w fun e w' => e = .returned (.bool (l.any qd4)) ∧ qbn w w' := by
 go_enter Try.func102, Try.ntmps102
 go_wp2_with (go_at_call 113; refine (indexFunc_110.calls A c l  _ ?h1 ).mono ?_; (case h1 => exact hr);  rintro e w' ⟨⟨r, rfl, hd⟩, ⟨n1, rfl⟩⟩; have HD := qaa.mk hd; clear hd)
 go_ret
 exact ⟨congrArg (fun b_ => Ending.returned (.bool b_)) HD.out, ⟨_, rfl⟩⟩
def qgg.f (l0 : List Int) : Option Bool := some (l0.any qd4)
theorem containsR.calls (A0 : Option Addr) (c0 : Nat) (l0 : List Int) (r : Bool) (w : World) (hr0 : Kd.C (Kd.int .i64) w A0 l0.length l0) (hc0 : l0.length ≤ c0) (h : qgg.f l0 = some r) :
  Calls Try.prog 102 #[.slice A0 l0.length c0, .func (.func 110) #[] #[]] w fun e w' => e = .returned (.bool r) ∧ qbn w w' := by
 unfold qgg.f at h
 injection h with h
 subst h
 exact containsFunc_110.calls A0 c0 l0 w hr0
end Go.Proofs.Ytmhomdohhihlcaa.P
