/- What the statement StockAges leans on, part 2 of 6: contracts of the program's functions; conditions: none. -/
import Derived.Laws.CopyOwn
import Derived.Maps.OwnSet
import Derived.DeepKeys4
import Derived.Deep.LoopGhost
import Derived.RangeFuncRecord
import Derived.RangeFuncNested
import Derived.RangeFuncBound
import Derived.RangeFuncCalls
import Derived.RangeFuncLeaves
import Derived.Shelf.Abstract
import Derived.Shelf.RegionOpen
import Derived.WalkKit
import Derived.OwnWalkIn
import Derived.TacticsInMore
import Derived.LoopNIn
import Derived.LoopIn
import Derived.Sort.LoopGhostIn
import Derived.Sort.CutIn
import Derived.ArgAppend
import Derived.Deep.RegionHeld3
import Derived.StillTailTactics
import Derived.Deep.DeepCutAuto
import Derived.OpenShut
import Derived.Laws.EntriesVeiled
import Derived.Test.YtmhomdohhihlcaaStockAgesx0
set_option linter.unusedVariables false
set_option linter.unusedSimpArgs false
set_option linter.constructorNameAsVariable false
namespace Go.Proofs.Ytmhomdohhihlcaa.P
open Go.RowKit Go.Proofs.YtmhomdohhihlcaaW.PrintWords Go.Proofs.YtmhomdohhihlcaaW.PrintLast Go.Proofs.YtmhomdohhihlcaaW.PrintMore
attribute [local go_sem] qb7 qb6 qcr qcq qbR qbS qb8 qb4
mutual
def qal.l0 : Nat → List (S68) → Int → Int → Bool → Int → Option (Int × Int × Int)
 | 0, _, _, _, _, _ => none
 | k + 1, x0, x1, x2, x8, x9 => if x8 = true then (qal.j1 k x0 x1 x2 x8 x9 (decide (x9 < (x0.length : Int)))) else (qal.j1 k x0 x1 x2 x8 x9 false)
def qal.j1 : Nat → List (S68) → Int → Int → Bool → Int → Bool → Option (Int × Int × Int)
 | 0, _, _, _, _, _, _ => none
 | k + 1, x0, x1, x2, x8, x9, x22 => if x22 = true then (if 0 ≤ x9 then (if x9 < (x0.length : Int) then ((qbh.f ((qau x0 x9).f0) 0 10000).bind fun t117 => (if t117 = true then ((qcI.f ((qau x0 x9).f1.f0) ((qau x0 x9).f1.f1) 0 20).bind fun t119 => (qal.l0 k x0 x1 x2 t119 (wrap64 (x9 + 1)))) else (qal.l0 k x0 x1 x2 false (wrap64 (x9 + 1))))) else (none)) else (none)) else (if x8 = true then ((qbh.f x1 0 20).bind fun t120 => (if t120 = true then ((qbh.f x2 x1 20).bind fun t121 => (qal.j2 k x0 x1 x2 (!t121))) else (qal.j2 k x0 x1 x2 true))) else (some (0, 0, 90)))
def qal.j2 : Nat → List (S68) → Int → Int → Bool → Option (Int × Int × Int)
 | 0, _, _, _, _ => none
 | k + 1, x0, x1, x2, x50 => if x50 = true then (some (0, 0, 7)) else (qal.l1 k x0 x1 x2 0 0 0)
def qal.l1 : Nat → List (S68) → Int → Int → Int → Int → Int → Option (Int × Int × Int)
 | 0, _, _, _, _, _, _ => none
 | k + 1, x0, x1, x2, x11, qfA, qfB => if x11 < (x0.length : Int) then (if 0 ≤ x11 then (if ((qau x0 x11).f1.f0) ≥ x1 then (qal.j4 k x0 x1 x2 x11 (decide (((qau x0 x11).f1.f1) ≤ x2)) qfA qfB ((qau x0 x11).f1.f0) ((qau x0 x11).f1.f1)) else (qal.j4 k x0 x1 x2 x11 false qfA qfB ((qau x0 x11).f1.f0) ((qau x0 x11).f1.f1))) else (none)) else (some (qfA, qfB, 0))
def qal.j4 : Nat → List (S68) → Int → Int → Int → Bool → Int → Int → Int → Int → Option (Int × Int × Int)
 | 0, _, _, _, _, _, _, _, _, _ => none
 | k + 1, x0, x1, x2, x11, x72, qfA, qfB, qoc, qod => if x72 = true then (if 0 ≤ x11 then (if x11 < (x0.length : Int) then (if qoc ≤ x2 then (if qod ≥ x1 then (qal.l1 k x0 x1 x2 (wrap64 (x11 + 1)) (wrap64 (qfA + ((qau x0 x11).f0))) (wrap64 (qfB + ((qau x0 x11).f0)))) else (qal.l1 k x0 x1 x2 (wrap64 (x11 + 1)) (wrap64 (qfA + ((qau x0 x11).f0))) qfB)) else (qal.l1 k x0 x1 x2 (wrap64 (x11 + 1)) (wrap64 (qfA + ((qau x0 x11).f0))) qfB)) else (none)) else (none)) else (if qoc ≤ x2 then (if qod ≥ x1 then (if 0 ≤ x11 then (if x11 < (x0.length : Int) then (qal.l1 k x0 x1 x2 (wrap64 (x11 + 1)) qfA (wrap64 (qfB + ((qau x0 x11).f0)))) else (none)) else (none)) else (qal.l1 k x0 x1 x2 (wrap64 (x11 + 1)) qfA qfB)) else (qal.l1 k x0 x1 x2 (wrap64 (x11 + 1)) qfA qfB))
end
def qal.f (k : Nat) (l0 : List (S68)) (a1 : Int) (a2 : Int) : Option (Int × Int × Int) := qal.l0 k l0 a1 a2 (decide ((l0.length : Int) ≤ 20)) 0
def qal.T16 : Bool × List (List Nat × List Nat) := (true, [([], []), ([0], [0]), ([], []), ([], []), ([2, 3], [2, 3]), ([4], [4]), ([5], [5]), ([1, 6], [1, 6]), ([0, 1, 2, 3, 4, 5, 6, 7], []), ([8, 7, 0, 1, 2, 3, 4, 5, 6, 7], [7, 8])])
def qal.B16 : List Nat := [0, 1, 0, 0, 12, 28, 60, 127, 255, 511]
theorem qal.tab16 : rtab .any (qjY Try.f20 16) = qal.T16 := by kernel_rfl
theorem qal.bits16 : qfx qal.T16.2 qal.B16 = true := by kernel_rfl
def qal.T18 : Bool × List (List Nat × List Nat) := (true, [([], []), ([0], [0]), ([], []), ([], []), ([2, 3], [2, 3]), ([4], [4]), ([5], [5]), ([1, 6], [1, 6]), ([0, 1, 2, 3, 4, 5, 6, 7], []), ([8, 7, 0, 1, 2, 3, 4, 5, 6, 7], [7, 8])])
def qal.B18 : List Nat := [0, 1, 0, 0, 12, 28, 60, 127, 255, 511]
theorem qal.tab18 : rtab .any (qjY Try.f20 18) = qal.T18 := by kernel_rfl
theorem qal.bits18 : qfx qal.T18.2 qal.B18 = true := by kernel_rfl
set_option maxHeartbeats 8000000 in
set_option maxRecDepth 100000 in
theorem qal.calls (k : Nat) (A0 : Option Addr) (c0 : Nat) (l0 : List (S68)) (a1 : Int) (a2 : Int) (r1 : Int) (r2 : Int) (r3 : Int) (w : World) (hr0 : Kd.C k68 w A0 l0.length l0) (hc0 : l0.length ≤ c0) (h : qal.f k l0 a1 a2 = some (r1, r2, r3)) :
  Calls Try.prog 20 #[.slice A0 l0.length c0, .int .i64 a1, .int .i64 a2] w fun e w' => e = .returned (.tuple #[.agg #[.int .i64 r1, .int .i64 r2], .int .i64 r3]) ∧ Below w.heap.size w w' := by
 have hu25 := Try.underlying25
 have HR0 := qaa.mk hr0
 have HC0 := qaa.mk hc0
 clear hr0 hc0
 have HB := qaa.mk (Below.refl w.heap.size w)
 have H : (qal.l0 k l0 a1 a2 (decide ((l0.length : Int) ≤ 20)) 0) = some (r1, r2, r3) := h
 clear h
 have H' := qaa.mk H
 clear H
 go_enter Try.func20, Try.ntmps20
 go_wp2_with (first | ((with_reducible refine qaN (N := 6) rfl ?_); (try (refine qed (by rfl) ?_; dsimp only)); refine qa9 ?hg (N := 6) ?hd (cs := #[.int .i64 0, .int .i64 0]) (t := 25) ?hr ?_; (case hd => rfl); (case hg => rfl); (case hr => first | (go_simp; done) | (go_simp; rfl)); intro qds hg w4 hbox hb; have n0_ := qaa.mk (qar (by repeat (first | (with_reducible first | exact HB.out | apply qaf | apply qad | apply qah) | exact HB.out)) hb); have n1_ := qaa.mk (hbox); have n2_ := qaa.mk ((by rw [hg]; exact (qam (by repeat (first | (with_reducible first | exact HB.out | apply qaf | apply qad | apply qah) | exact HB.out))) : w.heap.size ≤ qds)); have n3_ := qaa.mk ((by rw [hg]; exact (qam (by repeat (first | (with_reducible first | exact HB.out | apply qaf | apply qad | apply qah) | exact HB.out))) : w.heap.size ≤ qds)); clear HB; have HB := n0_; have qbB := n1_; have qCX := n2_; have qdA := n3_; clear n0_ n1_ n2_ n3_; clear hb hbox hg))
 go_loopg [8, 9] k (fun kq v8 v9 w' => ∃ (x8_1 : Bool) (x9_1 : Int), v8 = .bool x8_1 ∧ v9 = .int .i64 x9_1 ∧ qaa (qal.l0 kq l0 a1 a2 x8_1 x9_1 = some (r1, r2, r3)) ∧ qaa (kq ≤ k) ∧ qaa (w'.heap[qds]? = some (.cells #[.int .i64 0, .int .i64 0] 25 (0, 0))) ∧ qaa (Below w.heap.size w w'))
 case atStart => exact ⟨(decide ((l0.length : Int) ≤ 20)), (0), (by first | rfl | (simp; done) | (simp [*]; done)), (by first | rfl | (simp; done) | (simp [*]; done)), H', ⟨Nat.le_refl _⟩, ⟨by (with_reducible repeat (first | refine qac ?_ _ | refine qae ?_ | refine qab ?_ _)); exact qbB.out⟩, ⟨by repeat (first | (with_reducible first | exact HB.out | apply qaf | apply qad | apply qah | refine qag ?_ qdA.out) | exact HB.out)⟩⟩
 case round =>
  clear H'
  try clear c2
  try clear p2
  obtain ⟨x8_1, x9_1, rfl, rfl, HA, HK1, qbB, HB⟩ := hrel
  cases gk with
  | zero => exact absurd HA.out (by simp [qal.l0])
  | succ k1 =>
   have H := HA.out
   clear HA
   simp only [qal.l0] at H
   have HC5 := qaa.mk H
   clear H
   go_upto_region 3 with (fail)
   go_cut [22] (fun v22 wc => ∃ (kq : Nat) (qmX : Bool), v22 = .bool qmX ∧ qaa (qal.j1 kq l0 a1 a2 x8_1 x9_1 qmX = some (r1, r2, r3)) ∧ qaa (kq ≤ k1) ∧ qaa (wc.heap[qds]? = some (.cells #[.int .i64 0, .int .i64 0] 25 (0, 0))) ∧ qaa (Below w.heap.size w wc))
   case first =>
    have H := HC5.out; clear HC5
    by_cases c6 : x8_1 = true
    ·
     subst c6
     have H1 : (qal.j1 k1 l0 a1 a2 true x9_1 (decide (x9_1 < (l0.length : Int)))) = some (r1, r2, r3) := by rw [if_pos rfl] at H; exact H
     clear H; have H := H1; clear H1; have H' := qaa.mk H; clear H
     go_wp2
     go_meet
     case rel => exact ⟨_, (decide (x9_1 < (l0.length : Int))), (by first | rfl | (simp; done) | (simp [*]; done)), H', ⟨by have := HK1.out; first | omega | exact Nat.le_refl _⟩, ⟨by (with_reducible repeat (first | refine qac ?_ _ | refine qae ?_ | refine qab ?_ _)); exact qbB.out⟩, ⟨by repeat (first | (with_reducible first | exact HB.out | apply qaf | apply qad | apply qah | refine qag ?_ qdA.out) | exact HB.out)⟩⟩
    replace c6 := Bool.eq_false_iff.mpr c6; subst c6
    have H1 : (qal.j1 k1 l0 a1 a2 false x9_1 false) = some (r1, r2, r3) := by rw [if_neg (show ¬ (false = true) by decide)] at H; exact H
    clear H; have H := H1; clear H1; have H' := qaa.mk H; clear H
    go_wp2
    go_meet
    case rel => exact ⟨_, (false), (by first | rfl | (simp; done) | (simp [*]; done)), H', ⟨by have := HK1.out; first | omega | exact Nat.le_refl _⟩, ⟨by (with_reducible repeat (first | refine qac ?_ _ | refine qae ?_ | refine qab ?_ _)); exact qbB.out⟩, ⟨by repeat (first | (with_reducible first | exact HB.out | apply qaf | apply qad | apply qah | refine qag ?_ qdA.out) | exact HB.out)⟩⟩
   case rest =>
    clear HC5; (try clear c2); (try clear p2); (try clear c6); (try clear p2); obtain ⟨kq, qmX, rfl, HA, HJ4, qbB, HB⟩ := hcut
    cases kq with
    | zero => exact absurd HA.out (by simp [qal.j1])
    | succ kj4 =>
     have H := HA.out; clear HA; simp only [qal.j1] at H
     by_cases c7 : qmX = true
     ·
      subst c7
      have H1 : (if 0 ≤ x9_1 then (if x9_1 < (l0.length : Int) then ((qbh.f ((qau l0 x9_1).f0) 0 10000).bind fun t117 => (if t117 = true then ((qcI.f ((qau l0 x9_1).f1.f0) ((qau l0 x9_1).f1.f1) 0 20).bind fun t119 => (qal.l0 kj4 l0 a1 a2 t119 (wrap64 (x9_1 + 1)))) else (qal.l0 kj4 l0 a1 a2 false (wrap64 (x9_1 + 1))))) else (none)) else (none)) = some (r1, r2, r3) := by rw [if_pos rfl] at H; exact H
      clear H; have H := H1; clear H1
      by_cases c8 : 0 ≤ x9_1
      ·
       rw [if_pos c8] at H; have c8b0 : decide (0 ≤ x9_1) = true := decide_eq_true c8; clear c8
       by_cases c9 : x9_1 < (l0.length : Int)
       ·
        rw [if_pos c9] at H; have c9b0 : decide (x9_1 < (l0.length : Int)) = true := decide_eq_true c9; clear c9; replace H := Option.bind_eq_some_iff.mp H; obtain ⟨t117, A100, H⟩ := H; replace H : (if t117 = true then ((qcI.f ((qau l0 x9_1).f1.f0) ((qau l0 x9_1).f1.f1) 0 20).bind fun t119 => (qal.l0 kj4 l0 a1 a2 t119 (wrap64 (x9_1 + 1)))) else (qal.l0 kj4 l0 a1 a2 false (wrap64 (x9_1 + 1)))) = some (r1, r2, r3) := H; have A10 := qaa.mk A100; clear A100
        by_cases c11 : t117 = true
        ·
         subst c11
         have H1 : ((qcI.f ((qau l0 x9_1).f1.f0) ((qau l0 x9_1).f1.f1) 0 20).bind fun t119 => (qal.l0 kj4 l0 a1 a2 t119 (wrap64 (x9_1 + 1)))) = some (r1, r2, r3) := by rw [if_pos rfl] at H; exact H
         clear H; have H := H1; clear H1; replace H := Option.bind_eq_some_iff.mp H; obtain ⟨t119, A120, H⟩ := H; replace H : (qal.l0 kj4 l0 a1 a2 t119 (wrap64 (x9_1 + 1))) = some (r1, r2, r3) := H; have A12 := qaa.mk A120; clear A120; have H' := qaa.mk H; clear H; have p116 : 0 ≤ (x9_1 : Int) := of_decide_eq_true (by first | (with_reducible assumption) | assumption); have q116 : x9_1 < (l0.length : Int) := of_decide_eq_true (by first | (with_reducible assumption) | assumption); obtain ⟨qqy, e116, qfC, qfD, qfE⟩ := qfl HR0.out x9_1 p116 q116; cases e116; replace qfC := (HB.out.cell (World.block_lt_of_cell? w _ qfC)).trans qfC; replace qfD := (HB.out.cell (World.block_lt_of_cell? w _ qfD)).trans qfD; replace qfE := (HB.out.cell (World.block_lt_of_cell? w _ qfE)).trans qfE; replace p116 := eq_true p116; replace q116 := eq_true q116
         go_wp2_with (first | ((with_reducible refine qaK (f := 34) rfl ?_); refine qbm (some 30) rfl rfl Try.func34 (by kernel_rfl) rfl #[.int .i64 ((qau l0 x9_1).f0), .int .i64 0, .int .i64 10000] rfl (by (try simp only [List.map_toArray, List.map_cons, List.map_nil]); first | done | rfl | (simp only [List.length_drop, List.length_take]; rfl)) ?_; (with_reducible refine (qbh.calls ((qau l0 x9_1).f0) 0 10000 true _ A10.out).mono ?_); rintro e w' ⟨rfl, ⟨nd, rfl⟩⟩; refine ⟨_, rfl, ?_⟩; have p118 : 0 ≤ (x9_1 : Int) := of_decide_eq_true (by first | (with_reducible assumption) | assumption); have q118 : x9_1 < (l0.length : Int) := of_decide_eq_true (by first | (with_reducible assumption) | assumption); obtain ⟨qua, e118, qh3, qh4, qh5⟩ := qfl HR0.out x9_1 p118 q118; obtain rfl : qqy = qua := (by injection e118); replace qh3 := (HB.out.cell (World.block_lt_of_cell? w _ qh3)).trans qh3; replace qh4 := (HB.out.cell (World.block_lt_of_cell? w _ qh4)).trans qh4; replace qh5 := (HB.out.cell (World.block_lt_of_cell? w _ qh5)).trans qh5; replace p118 := eq_true p118; replace q118 := eq_true q118) | (go_at_call 49; (with_reducible refine (qcI.calls ((qau l0 x9_1).f1.f0) ((qau l0 x9_1).f1.f1) 0 20 t119 _ A12.out).mono ?_); rintro e w13 ⟨rfl, hb⟩; have n0_ := qaa.mk (qan (g := qds) (o := .cells #[.int .i64 0, .int .i64 0] 25 (0, 0)) (by (with_reducible repeat (first | refine qac ?_ _ | refine qae ?_ | refine qab ?_ _)); exact qbB.out) hb); have n1_ := qaa.mk (qar (by repeat (first | (with_reducible first | exact HB.out | apply qaf | apply qad | apply qah | refine qag ?_ qdA.out) | exact HB.out)) hb); clear qbB; clear HB; have qbB := n0_; have HB := n1_; clear n0_ n1_; (try clear hb); (try clear hb2); (try clear hk); (try clear hi)))
         go_roundg kj4
         case measure => have := HK1.out; have := HJ4.out; omega
         case rel => exact ⟨(t119), (wrap64 (x9_1 + 1)), (by first | rfl | (simp; done) | (simp [*]; done)), (by first | rfl | (simp; done) | (simp [*]; done)), H', ⟨by have := HK1.out; have := HJ4.out; omega⟩, ⟨by (with_reducible repeat (first | refine qac ?_ _ | refine qae ?_ | refine qab ?_ _)); exact qbB.out⟩, ⟨by repeat (first | (with_reducible first | exact HB.out | apply qaf | apply qad | apply qah | refine qag ?_ qdA.out) | exact HB.out)⟩⟩
        replace c11 := Bool.eq_false_iff.mpr c11; subst c11
        have H1 : (qal.l0 kj4 l0 a1 a2 false (wrap64 (x9_1 + 1))) = some (r1, r2, r3) := by rw [if_neg (show ¬ (false = true) by decide)] at H; exact H
        clear H; have H := H1; clear H1; have H' := qaa.mk H; clear H; have p116 : 0 ≤ (x9_1 : Int) := of_decide_eq_true (by first | (with_reducible assumption) | assumption); have q116 : x9_1 < (l0.length : Int) := of_decide_eq_true (by first | (with_reducible assumption) | assumption); obtain ⟨qqy, e116, qfC, qfD, qfE⟩ := qfl HR0.out x9_1 p116 q116; cases e116; replace qfC := (HB.out.cell (World.block_lt_of_cell? w _ qfC)).trans qfC; replace qfD := (HB.out.cell (World.block_lt_of_cell? w _ qfD)).trans qfD; replace qfE := (HB.out.cell (World.block_lt_of_cell? w _ qfE)).trans qfE; replace p116 := eq_true p116; replace q116 := eq_true q116
        go_wp2_with (first | ((with_reducible refine qaK (f := 34) rfl ?_); refine qbm (some 30) rfl rfl Try.func34 (by kernel_rfl) rfl #[.int .i64 ((qau l0 x9_1).f0), .int .i64 0, .int .i64 10000] rfl (by (try simp only [List.map_toArray, List.map_cons, List.map_nil]); first | done | rfl | (simp only [List.length_drop, List.length_take]; rfl)) ?_; (with_reducible refine (qbh.calls ((qau l0 x9_1).f0) 0 10000 false _ A10.out).mono ?_); rintro e w' ⟨rfl, ⟨nd, rfl⟩⟩; refine ⟨_, rfl, ?_⟩))
        go_roundg kj4
        case measure => have := HK1.out; have := HJ4.out; omega
        case rel => exact ⟨(false), (wrap64 (x9_1 + 1)), (by first | rfl | (simp; done) | (simp [*]; done)), (by first | rfl | (simp; done) | (simp [*]; done)), H', ⟨by have := HK1.out; have := HJ4.out; omega⟩, ⟨by (with_reducible repeat (first | refine qac ?_ _ | refine qae ?_ | refine qab ?_ _)); exact qbB.out⟩, ⟨by repeat (first | (with_reducible first | exact HB.out | apply qaf | apply qad | apply qah | refine qag ?_ qdA.out) | exact HB.out)⟩⟩
       rw [if_neg c9] at H
       exact absurd H (by simp)
      rw [if_neg c8] at H
      exact absurd H (by simp)
     replace c7 := Bool.eq_false_iff.mpr c7; subst c7
     have H1 : (if x8_1 = true then ((qbh.f a1 0 20).bind fun t120 => (if t120 = true then ((qbh.f a2 a1 20).bind fun t121 => (qal.j2 kj4 l0 a1 a2 (!t121))) else (qal.j2 kj4 l0 a1 a2 true))) else (some (0, 0, 90))) = some (r1, r2, r3) := by rw [if_neg (show ¬ (false = true) by decide)] at H; exact H
     clear H; have H := H1; clear H1
     by_cases c14 : x8_1 = true
     ·
      subst c14
      have H1 : ((qbh.f a1 0 20).bind fun t120 => (if t120 = true then ((qbh.f a2 a1 20).bind fun t121 => (qal.j2 kj4 l0 a1 a2 (!t121))) else (qal.j2 kj4 l0 a1 a2 true))) = some (r1, r2, r3) := by rw [if_pos rfl] at H; exact H
      clear H; have H := H1; clear H1; have HC15 := qaa.mk H; clear H
      go_upto_region 8 with (fail)
      go_cut [50] (fun v50 wc => ∃ (kq : Nat) (qk9 : Bool), v50 = .bool qk9 ∧ qaa (qal.j2 kq l0 a1 a2 qk9 = some (r1, r2, r3)) ∧ qaa (kq ≤ kj4) ∧ qaa (wc.heap[qds]? = some (.cells #[.int .i64 0, .int .i64 0] 25 (0, 0))) ∧ qaa (Below w.heap.size w wc))
      case first =>
       have H := HC15.out; clear HC15; replace H := Option.bind_eq_some_iff.mp H; obtain ⟨t120, A160, H⟩ := H; replace H : (if t120 = true then ((qbh.f a2 a1 20).bind fun t121 => (qal.j2 kj4 l0 a1 a2 (!t121))) else (qal.j2 kj4 l0 a1 a2 true)) = some (r1, r2, r3) := H; have A16 := qaa.mk A160; clear A160
       by_cases c17 : t120 = true
       ·
        subst c17
        have H1 : ((qbh.f a2 a1 20).bind fun t121 => (qal.j2 kj4 l0 a1 a2 (!t121))) = some (r1, r2, r3) := by rw [if_pos rfl] at H; exact H
        clear H; have H := H1; clear H1; replace H := Option.bind_eq_some_iff.mp H; obtain ⟨t121, A180, H⟩ := H; replace H : (qal.j2 kj4 l0 a1 a2 (!t121)) = some (r1, r2, r3) := H; have A18 := qaa.mk A180; clear A180; have H' := qaa.mk H; clear H
        go_wp2_with (first | ((with_reducible refine qaK (f := 34) rfl ?_); refine qbm (some 43) rfl rfl Try.func34 (by kernel_rfl) rfl #[.int .i64 a1, .int .i64 0, .int .i64 20] rfl (by (try simp only [List.map_toArray, List.map_cons, List.map_nil]); first | done | rfl | (simp only [List.length_drop, List.length_take]; rfl)) ?_; (with_reducible refine (qbh.calls a1 0 20 true _ A16.out).mono ?_); rintro e w' ⟨rfl, ⟨nd, rfl⟩⟩; refine ⟨_, rfl, ?_⟩) | (go_at_call 34; (with_reducible refine (qbh.calls a2 a1 20 t121 _ A18.out).mono ?_); rintro e w' ⟨rfl, ⟨nd, rfl⟩⟩))
        go_meet
        case rel => exact ⟨_, (!t121), (by first | rfl | (simp; done) | (simp [*]; done)), H', ⟨by have := HK1.out; have := HJ4.out; first | omega | exact Nat.le_refl _⟩, ⟨by (with_reducible repeat (first | refine qac ?_ _ | refine qae ?_ | refine qab ?_ _)); exact qbB.out⟩, ⟨by repeat (first | (with_reducible first | exact HB.out | apply qaf | apply qad | apply qah | refine qag ?_ qdA.out) | exact HB.out)⟩⟩
       replace c17 := Bool.eq_false_iff.mpr c17; subst c17
       have H1 : (qal.j2 kj4 l0 a1 a2 true) = some (r1, r2, r3) := by rw [if_neg (show ¬ (false = true) by decide)] at H; exact H
       clear H; have H := H1; clear H1; have H' := qaa.mk H; clear H
       go_wp2_with (first | ((with_reducible refine qaK (f := 34) rfl ?_); refine qbm (some 43) rfl rfl Try.func34 (by kernel_rfl) rfl #[.int .i64 a1, .int .i64 0, .int .i64 20] rfl (by (try simp only [List.map_toArray, List.map_cons, List.map_nil]); first | done | rfl | (simp only [List.length_drop, List.length_take]; rfl)) ?_; (with_reducible refine (qbh.calls a1 0 20 false _ A16.out).mono ?_); rintro e w' ⟨rfl, ⟨nd, rfl⟩⟩; refine ⟨_, rfl, ?_⟩))
       go_meet
       case rel => exact ⟨_, (true), (by first | rfl | (simp; done) | (simp [*]; done)), H', ⟨by have := HK1.out; have := HJ4.out; first | omega | exact Nat.le_refl _⟩, ⟨by (with_reducible repeat (first | refine qac ?_ _ | refine qae ?_ | refine qab ?_ _)); exact qbB.out⟩, ⟨by repeat (first | (with_reducible first | exact HB.out | apply qaf | apply qad | apply qah | refine qag ?_ qdA.out) | exact HB.out)⟩⟩
      case rest =>
       clear HC15; (try clear c1); (try clear p1); (try clear q1); (try clear hx1); (try clear c2); (try clear p2); (try clear c3); (try clear c6); (try clear p6); (try clear c7); (try clear c8); (try clear c8b0); (try clear c9); (try clear c9b0); (try clear c11); (try clear p11); (try clear q11); (try clear hx11); (try clear c14); (try clear c17); (try clear qfC); (try clear qfD); (try clear qfE); (try clear qh3); (try clear qh4); (try clear qh5); (try clear p116); (try clear p118); (try clear p2); (try clear q116); (try clear q118); obtain ⟨kq, qk9, rfl, HA, HJ14, qbB, HB⟩ := hcut
       cases kq with
       | zero => exact absurd HA.out (by simp [qal.j2])
       | succ kj14 =>
        have H := HA.out; clear HA; simp only [qal.j2] at H
        by_cases c19 : qk9 = true
        ·
         subst c19
         have H1 : (some (0, 0, 7)) = some (r1, r2, r3) := by rw [if_pos rfl] at H; exact H
         clear H; have H := H1; clear H1; simp only [Option.some.injEq, Prod.mk.injEq] at H; obtain ⟨rfl, rfl, rfl⟩ := H; have qgk : wc.cell? ⟨qds, 0, none⟩ = some (.int .i64 0) := (qai qbB.out 0).trans rfl; have qgl : wc.cell? ⟨qds, 1, none⟩ = some (.int .i64 0) := (qai qbB.out 1).trans rfl; have qgm := qaj qbB.out 0; have qgn := qaj qbB.out 1
         go_wp2
         refine bodyPost_ret (qf4 rfl _ _ qds 25 #[.int .i64 0, .int .i64 0] (0, 0) _ rfl (by (with_reducible repeat (first | refine qac ?_ _ | refine qae ?_ | refine qab ?_ _)); refine qaw (cs := #[.int .i64 0, .int .i64 0]) ?_ 1 _ rfl; (with_reducible repeat (first | refine qac ?_ _ | refine qae ?_ | refine qab ?_ _)); refine qaw (cs := #[.int .i64 0, .int .i64 0]) ?_ 0 _ rfl; (with_reducible repeat (first | refine qac ?_ _ | refine qae ?_ | refine qab ?_ _)); exact qbB.out) Try.underlying25 rfl (by kernel_rfl)) rfl ?_
         exact ⟨by first | rfl | (simp [qaG, qaH] <;> rfl) | (simp [*, qaG, qaH] <;> rfl), by repeat (first | (with_reducible first | exact HB.out | apply qaf | apply qad | apply qah | refine qag ?_ qdA.out) | exact HB.out)⟩
        replace c19 := Bool.eq_false_iff.mpr c19; subst c19
        have H1 : (qal.l1 kj14 l0 a1 a2 0 0 0) = some (r1, r2, r3) := by rw [if_neg (show ¬ (false = true) by decide)] at H; exact H
        clear H; have H := H1; clear H1; have H' := qaa.mk H; clear H
        go_wp2_with (first | ((with_reducible refine qaN (N := 10) rfl ?_); (try (refine qed (by rfl) ?_; dsimp only)); refine qa9 ?hg (N := 10) ?hd (cs := #[.int .i64 0, .int .i64 0]) (t := 25) ?hr ?_; (case hd => rfl); (case hg => rfl); (case hr => first | (go_simp; done) | (go_simp; rfl)); intro qc9 hg w21 hbox hb; have n0_ := qaa.mk (qan (g := qds) (o := .cells #[.int .i64 0, .int .i64 0] 25 (0, 0)) (by (with_reducible repeat (first | refine qac ?_ _ | refine qae ?_ | refine qab ?_ _)); exact qbB.out) hb); have n1_ := qaa.mk (qar (by repeat (first | (with_reducible first | exact HB.out | apply qaf | apply qad | apply qah | refine qag ?_ qdA.out) | exact HB.out)) hb); have n2_ := qaa.mk (hbox); have n3_ := qaa.mk ((by rw [hg]; exact (qam (by repeat (first | (with_reducible first | exact HB.out | apply qaf | apply qad | apply qah | refine qag ?_ qdA.out) | exact HB.out))) : w.heap.size ≤ qc9)); have n4_ := qaa.mk ((by rw [hg]; exact (qam (by repeat (first | (with_reducible first | exact HB.out | apply qaf | apply qad | apply qah | refine qag ?_ qdA.out) | exact HB.out))) : w.heap.size ≤ qc9)); have n5_ := qaa.mk ((by rw [hg]; exact Nat.ne_of_lt (qaA (g := qds) (o := .cells #[.int .i64 0, .int .i64 0] 25 (0, 0)) (by (with_reducible repeat (first | refine qac ?_ _ | refine qae ?_ | refine qab ?_ _)); exact qbB.out)) : qds ≠ qc9)); have n6_ := qaa.mk ((by rw [hg]; exact Nat.ne_of_gt (qaA (g := qds) (o := .cells #[.int .i64 0, .int .i64 0] 25 (0, 0)) (by (with_reducible repeat (first | refine qac ?_ _ | refine qae ?_ | refine qab ?_ _)); exact qbB.out)) : qc9 ≠ qds)); clear qbB; clear HB; have qbB := n0_; have HB := n1_; have qbL := n2_; have qCY := n3_; have qfL := n4_; have qeh := n5_; have qgS := n6_; clear n0_ n1_ n2_ n3_ n4_ n5_ n6_; clear hb hbox hg))
        go_loopg [11] kj14 (fun kq v11 w' => ∃ (qaJ : Int) (qbx : Int) (qbK : Int), v11 = .int .i64 qaJ ∧ qaa (qal.l1 kq l0 a1 a2 qaJ qbx qbK = some (r1, r2, r3)) ∧ qaa (kq ≤ kj14) ∧ qaa (w'.heap[qds]? = some (.cells #[.int .i64 0, .int .i64 0] 25 (0, 0))) ∧ qaa (w'.heap[qc9]? = some (.cells #[.int .i64 qbx, .int .i64 qbK] 25 (0, 0))) ∧ qaa (Below w.heap.size w w'))
        case atStart => exact ⟨(0), (0), (0), (by first | rfl | (simp; done) | (simp [*]; done)), H', ⟨Nat.le_refl _⟩, ⟨by (with_reducible repeat (first | refine qac ?_ _ | refine qae ?_ | refine qab ?_ _)); exact qbB.out⟩, ⟨by (with_reducible repeat (first | refine qac ?_ _ | refine qae ?_ | refine qab ?_ _)); exact qbL.out⟩, ⟨by repeat (first | (with_reducible first | exact HB.out | apply qaf | apply qad | apply qah | refine qag ?_ qdA.out | refine qag ?_ qfL.out) | exact HB.out)⟩⟩
        case round =>
         clear H'; (try clear c1); (try clear p1); (try clear q1); (try clear hx1); (try clear c2); (try clear p2); (try clear c3); (try clear c6); (try clear p6); (try clear c7); (try clear c8); (try clear c8b0); (try clear c9); (try clear c9b0); (try clear c11); (try clear p11); (try clear q11); (try clear hx11); (try clear c14); (try clear c17); (try clear c19); (try clear c20); (try clear qgk); (try clear qgl); (try clear qgm); (try clear qgn); (try clear qfC); (try clear qfD); (try clear qfE); (try clear qh3); (try clear qh4); (try clear qh5); (try clear p1); (try clear p11); (try clear p116); (try clear p118); (try clear p2); (try clear p6); (try clear q1); (try clear q11); (try clear q116); (try clear q118); obtain ⟨qaJ, qbx, qbK, rfl, HA, HK4, qbB, qbL, HB⟩ := hrel
         cases gk with
         | zero => exact absurd HA.out (by simp [qal.l1])
         | succ k4 =>
          have H := HA.out; clear HA; simp only [qal.l1] at H
          by_cases c22 : qaJ < (l0.length : Int)
          ·
           rw [if_pos c22] at H; have c22b0 : decide (qaJ < (l0.length : Int)) = true := decide_eq_true c22; clear c22
           by_cases c23 : 0 ≤ qaJ
           ·
            rw [if_pos c23] at H; have c23b0 : decide (0 ≤ qaJ) = true := decide_eq_true c23; clear c23; have HC24 := qaa.mk H; clear H; have p123 : 0 ≤ (qaJ : Int) := of_decide_eq_true (by first | (with_reducible assumption) | assumption); have q123 : qaJ < (l0.length : Int) := of_decide_eq_true (by first | (with_reducible assumption) | assumption); obtain ⟨qdi, e123, qj6, qj7, qj8⟩ := qfl HR0.out qaJ p123 q123; cases e123; replace qj6 := (HB.out.cell (World.block_lt_of_cell? w _ qj6)).trans qj6; replace qj7 := (HB.out.cell (World.block_lt_of_cell? w _ qj7)).trans qj7; replace qj8 := (HB.out.cell (World.block_lt_of_cell? w _ qj8)).trans qj8; replace p123 := eq_true p123; replace q123 := eq_true q123
            go_upto_region 15 with (first | ((with_reducible refine qaN (N := 12) rfl ?_); (try (refine qed (by rfl) ?_; dsimp only)); refine qa9 ?hg (N := 12) ?hd (cs := #[.int .i64 0, .int .i64 0]) (t := 25) ?hr ?_; (case hd => rfl); (case hg => rfl); (case hr => first | (go_simp; done) | (go_simp; rfl)); intro qdH hg w25 hbox hb; have n0_ := qaa.mk (qan (g := qds) (o := .cells #[.int .i64 0, .int .i64 0] 25 (0, 0)) (by (with_reducible repeat (first | refine qac ?_ _ | refine qae ?_ | refine qab ?_ _)); exact qbB.out) hb); have n1_ := qaa.mk (qan (g := qc9) (o := .cells #[.int .i64 qbx, .int .i64 qbK] 25 (0, 0)) (by (with_reducible repeat (first | refine qac ?_ _ | refine qae ?_ | refine qab ?_ _)); exact qbL.out) hb); have n2_ := qaa.mk (qar (by repeat (first | (with_reducible first | exact HB.out | apply qaf | apply qad | apply qah | refine qag ?_ qdA.out | refine qag ?_ qfL.out) | exact HB.out)) hb); have n3_ := qaa.mk (hbox); have n4_ := qaa.mk ((by rw [hg]; exact (qam (by repeat (first | (with_reducible first | exact HB.out | apply qaf | apply qad | apply qah | refine qag ?_ qdA.out | refine qag ?_ qfL.out) | exact HB.out))) : w.heap.size ≤ qdH)); have n5_ := qaa.mk ((by rw [hg]; exact (qam (by repeat (first | (with_reducible first | exact HB.out | apply qaf | apply qad | apply qah | refine qag ?_ qdA.out | refine qag ?_ qfL.out) | exact HB.out))) : w.heap.size ≤ qdH)); have n6_ := qaa.mk ((by rw [hg]; exact Nat.ne_of_lt (qaA (g := qds) (o := .cells #[.int .i64 0, .int .i64 0] 25 (0, 0)) (by (with_reducible repeat (first | refine qac ?_ _ | refine qae ?_ | refine qab ?_ _)); exact qbB.out)) : qds ≠ qdH)); have n7_ := qaa.mk ((by rw [hg]; exact Nat.ne_of_gt (qaA (g := qds) (o := .cells #[.int .i64 0, .int .i64 0] 25 (0, 0)) (by (with_reducible repeat (first | refine qac ?_ _ | refine qae ?_ | refine qab ?_ _)); exact qbB.out)) : qdH ≠ qds)); have n8_ := qaa.mk ((by rw [hg]; exact Nat.ne_of_lt (qaA (g := qc9) (o := .cells #[.int .i64 qbx, .int .i64 qbK] 25 (0, 0)) (by (with_reducible repeat (first | refine qac ?_ _ | refine qae ?_ | refine qab ?_ _)); exact qbL.out)) : qc9 ≠ qdH)); have n9_ := qaa.mk ((by rw [hg]; exact Nat.ne_of_gt (qaA (g := qc9) (o := .cells #[.int .i64 qbx, .int .i64 qbK] 25 (0, 0)) (by (with_reducible repeat (first | refine qac ?_ _ | refine qae ?_ | refine qab ?_ _)); exact qbL.out)) : qdH ≠ qc9)); clear qbB; clear qbL; clear HB; have qbB := n0_; have qbL := n1_; have HB := n2_; have qbN := n3_; have qCZ := n4_; have qhV := n5_; have qdP := n6_; have qfa := n7_; have qdb := n8_; have qdz := n9_; clear n0_ n1_ n2_ n3_ n4_ n5_ n6_ n7_ n8_ n9_; clear hb hbox hg; have qub := qfa.out; have quc := qdP.out; have qC0 := qdz.out; have qC1 := qdb.out; have qhZ : w25.cell? ⟨qdH, 0, none⟩ = some (.int .i64 0) := (qai qbN.out 0).trans rfl; have qh0 : w25.cell? ⟨qdH, 1, none⟩ = some (.int .i64 0) := (qai qbN.out 1).trans rfl; have qh1 := qaj qbN.out 0; have qh2 := qaj qbN.out 1))
            (try simp only [Act.put, List.setIfInBounds_toArray, List.set_cons_zero, List.set_cons_succ])
            go_cut [72] (fun v72 wc => ∃ (kq : Nat) (qla : Bool), v72 = .bool qla ∧ qaa (qal.j4 kq l0 a1 a2 qaJ qla qbx qbK ((qau l0 qaJ).f1.f0) ((qau l0 qaJ).f1.f1) = some (r1, r2, r3)) ∧ qaa (kq ≤ k4) ∧ qaa (wc.heap[qds]? = some (.cells #[.int .i64 0, .int .i64 0] 25 (0, 0))) ∧ qaa (wc.heap[qc9]? = some (.cells #[.int .i64 qbx, .int .i64 qbK] 25 (0, 0))) ∧ qaa (wc.heap[qdH]? = some (.cells #[.int .i64 ((qau l0 qaJ).f1.f0), .int .i64 ((qau l0 qaJ).f1.f1)] 25 (0, 0))) ∧ qaa (Below w.heap.size w wc))
            case first =>
             have H := HC24.out; clear HC24
             by_cases c29 : ((qau l0 qaJ).f1.f0) ≥ a1
             ·
              rw [if_pos c29] at H; have c29b0 : decide (a1 ≤ ((qau l0 qaJ).f1.f0)) = true := decide_eq_true c29; clear c29
              (first | rw [c29b0] | (simp only [qaM, qaR]; rw [c29b0]) | skip)
              have H' := qaa.mk H; clear H; have qC2 := qfa.out; have qC3 := qdP.out; have qqz := qdz.out; have qqA := qdb.out; have qoe : w25.cell? ⟨qdH, 0, none⟩ = some (.int .i64 0) := (qai qbN.out 0).trans rfl; have qof : w25.cell? ⟨qdH, 1, none⟩ = some (.int .i64 0) := (qai qbN.out 1).trans rfl; have qog := qaj qbN.out 0; have qoh := qaj qbN.out 1
              go_wp2
              go_meet
              case rel => exact ⟨_, (decide (((qau l0 qaJ).f1.f1) ≤ a2)), (by first | rfl | (simp; done) | (simp [*]; done)), H', ⟨by have := HK1.out; have := HJ4.out; have := HJ14.out; have := HK4.out; first | omega | exact Nat.le_refl _⟩, ⟨by (with_reducible repeat (first | refine qac ?_ _ | refine qae ?_ | refine qab ?_ _)); refine qao ?_ qdP.out _; (with_reducible repeat (first | refine qac ?_ _ | refine qae ?_ | refine qab ?_ _)); refine qao ?_ qdP.out _; (with_reducible repeat (first | refine qac ?_ _ | refine qae ?_ | refine qab ?_ _)); exact qbB.out⟩, ⟨by (with_reducible repeat (first | refine qac ?_ _ | refine qae ?_ | refine qab ?_ _)); refine qao ?_ qdb.out _; (with_reducible repeat (first | refine qac ?_ _ | refine qae ?_ | refine qab ?_ _)); refine qao ?_ qdb.out _; (with_reducible repeat (first | refine qac ?_ _ | refine qae ?_ | refine qab ?_ _)); exact qbL.out⟩, ⟨by (with_reducible repeat (first | refine qac ?_ _ | refine qae ?_ | refine qab ?_ _)); refine qaw (cs := #[.int .i64 ((qau l0 qaJ).f1.f0), .int .i64 0]) ?_ 1 _ rfl; (with_reducible repeat (first | refine qac ?_ _ | refine qae ?_ | refine qab ?_ _)); refine qaw (cs := #[.int .i64 0, .int .i64 0]) ?_ 0 _ rfl; (with_reducible repeat (first | refine qac ?_ _ | refine qae ?_ | refine qab ?_ _)); exact qbN.out⟩, ⟨by repeat (first | (with_reducible first | exact HB.out | apply qaf | apply qad | apply qah | refine qag ?_ qdA.out | refine qag ?_ qfL.out | refine qag ?_ qhV.out) | exact HB.out)⟩⟩
             rw [if_neg c29] at H; have c29b0 : decide (a1 ≤ ((qau l0 qaJ).f1.f0)) = false := decide_eq_false c29; clear c29
             (first | rw [c29b0] | (simp only [qaM, qaR]; rw [c29b0]) | skip)
             have H' := qaa.mk H; clear H; have qC4 := qfa.out; have qC5 := qdP.out; have qud := qdz.out; have que := qdb.out; have qmc : w25.cell? ⟨qdH, 0, none⟩ = some (.int .i64 0) := (qai qbN.out 0).trans rfl; have qmd : w25.cell? ⟨qdH, 1, none⟩ = some (.int .i64 0) := (qai qbN.out 1).trans rfl; have qme := qaj qbN.out 0; have qmf := qaj qbN.out 1
             go_wp2
             go_meet
             case rel => exact ⟨_, (false), (by first | rfl | (simp; done) | (simp [*]; done)), H', ⟨by have := HK1.out; have := HJ4.out; have := HJ14.out; have := HK4.out; first | omega | exact Nat.le_refl _⟩, ⟨by (with_reducible repeat (first | refine qac ?_ _ | refine qae ?_ | refine qab ?_ _)); refine qao ?_ qdP.out _; (with_reducible repeat (first | refine qac ?_ _ | refine qae ?_ | refine qab ?_ _)); refine qao ?_ qdP.out _; (with_reducible repeat (first | refine qac ?_ _ | refine qae ?_ | refine qab ?_ _)); exact qbB.out⟩, ⟨by (with_reducible repeat (first | refine qac ?_ _ | refine qae ?_ | refine qab ?_ _)); refine qao ?_ qdb.out _; (with_reducible repeat (first | refine qac ?_ _ | refine qae ?_ | refine qab ?_ _)); refine qao ?_ qdb.out _; (with_reducible repeat (first | refine qac ?_ _ | refine qae ?_ | refine qab ?_ _)); exact qbL.out⟩, ⟨by (with_reducible repeat (first | refine qac ?_ _ | refine qae ?_ | refine qab ?_ _)); refine qaw (cs := #[.int .i64 ((qau l0 qaJ).f1.f0), .int .i64 0]) ?_ 1 _ rfl; (with_reducible repeat (first | refine qac ?_ _ | refine qae ?_ | refine qab ?_ _)); refine qaw (cs := #[.int .i64 0, .int .i64 0]) ?_ 0 _ rfl; (with_reducible repeat (first | refine qac ?_ _ | refine qae ?_ | refine qab ?_ _)); exact qbN.out⟩, ⟨by repeat (first | (with_reducible first | exact HB.out | apply qaf | apply qad | apply qah | refine qag ?_ qdA.out | refine qag ?_ qfL.out | refine qag ?_ qhV.out) | exact HB.out)⟩⟩
            case rest =>
             clear HC24; (try clear c1); (try clear p1); (try clear q1); (try clear hx1); (try clear c2); (try clear p2); (try clear c3); (try clear c6); (try clear p6); (try clear c7); (try clear c8); (try clear c8b0); (try clear c9); (try clear c9b0); (try clear c11); (try clear p11); (try clear q11); (try clear hx11); (try clear p12); (try clear q12); (try clear hx12); (try clear c14); (try clear c17); (try clear c19); (try clear c20); (try clear c22); (try clear c22b0); (try clear c23); (try clear c23b0); (try clear c26); (try clear c27); (try clear c29); (try clear c29b0); (try clear c30); (try clear c31); (try clear c33); (try clear c34); (try clear qgk); (try clear qgl); (try clear qhZ); (try clear qh0); (try clear qoe); (try clear qof); (try clear qmc); (try clear qmd); (try clear qgm); (try clear qgn); (try clear qh1); (try clear qh2); (try clear qog); (try clear qoh); (try clear qme); (try clear qmf); (try clear qfC); (try clear qfD); (try clear qfE); (try clear qh3); (try clear qh4); (try clear qh5); (try clear qj6); (try clear qj7); (try clear qj8); (try clear p1); (try clear p11); (try clear p116); (try clear p118); (try clear p123); (try clear p2); (try clear p6); (try clear q1); (try clear q11); (try clear q116); (try clear q118); (try clear q123); obtain ⟨kq, qla, rfl, HA, HJ23, qbB, qbL, qbN, HB⟩ := hcut
             cases kq with
             | zero => exact absurd HA.out (by simp [qal.j4])
             | succ kj23 =>
              have H := HA.out; clear HA; simp only [qal.j4] at H
              by_cases c36 : qla = true
              ·
               subst c36
               have H1 : (if 0 ≤ qaJ then (if qaJ < (l0.length : Int) then (if ((qau l0 qaJ).f1.f0) ≤ a2 then (if ((qau l0 qaJ).f1.f1) ≥ a1 then (qal.l1 kj23 l0 a1 a2 (wrap64 (qaJ + 1)) (wrap64 (qbx + ((qau l0 qaJ).f0))) (wrap64 (qbK + ((qau l0 qaJ).f0)))) else (qal.l1 kj23 l0 a1 a2 (wrap64 (qaJ + 1)) (wrap64 (qbx + ((qau l0 qaJ).f0))) qbK)) else (qal.l1 kj23 l0 a1 a2 (wrap64 (qaJ + 1)) (wrap64 (qbx + ((qau l0 qaJ).f0))) qbK)) else (none)) else (none)) = some (r1, r2, r3) := by rw [if_pos rfl] at H; exact H
               clear H; have H := H1; clear H1
               by_cases c37 : 0 ≤ qaJ
               ·
                rw [if_pos c37] at H; have c37b0 : decide (0 ≤ qaJ) = true := decide_eq_true c37; clear c37
                by_cases c38 : qaJ < (l0.length : Int)
                ·
                 rw [if_pos c38] at H; have c38b0 : decide (qaJ < (l0.length : Int)) = true := decide_eq_true c38; clear c38
                 by_cases c39 : ((qau l0 qaJ).f1.f0) ≤ a2
                 ·
                  rw [if_pos c39] at H; have c39b0 : decide (((qau l0 qaJ).f1.f0) ≤ a2) = true := decide_eq_true c39; clear c39
                  by_cases c40 : ((qau l0 qaJ).f1.f1) ≥ a1
                  ·
                   rw [if_pos c40] at H; have c40b0 : decide (a1 ≤ ((qau l0 qaJ).f1.f1)) = true := decide_eq_true c40; clear c40; have H' := qaa.mk H; clear H
                   try go_wp2
                   have n0_ := qaa.mk (qae qbB.out); have n1_ := qaa.mk (qae qbL.out); have n2_ := qaa.mk (qae qbN.out); have n3_ := qaa.mk (qah HB.out); clear qbB qbL qbN HB; have qbB := n0_; have qbL := n1_; have qbN := n2_; have HB := n3_; clear n0_ n1_ n2_ n3_; have p125 : 0 ≤ (qaJ : Int) := of_decide_eq_true (by first | (with_reducible assumption) | assumption); have q125 : qaJ < (l0.length : Int) := of_decide_eq_true (by first | (with_reducible assumption) | assumption); obtain ⟨qlb, e125, qdQ, qdR, qdS⟩ := qfl HR0.out qaJ p125 q125; have qgT := qdS; have qgU := qdR; have qgV := qdQ; obtain rfl : qdi = qlb := (by injection e125); replace qdQ := (HB.out.cell (World.block_lt_of_cell? w _ qdQ)).trans qdQ; replace qdR := (HB.out.cell (World.block_lt_of_cell? w _ qdR)).trans qdR; replace qdS := (HB.out.cell (World.block_lt_of_cell? w _ qdS)).trans qdS; replace p125 := eq_true p125; replace q125 := eq_true q125; refine qgB (n := 10) (S := fun w' => w'.cell? ⟨qc9, 0, none⟩ = some (.int .i64 qbx) ∧ w'.cell? ⟨qc9, 1, none⟩ = some (.int .i64 qbK) ∧ w'.cell? (qdi.add ((qaJ).toNat * 3)) = some (.int .i64 ((qau l0 qaJ).f0)) ∧ w'.cell? ⟨(qdi.add ((qaJ).toNat * 3)).block, (qdi.add ((qaJ).toNat * 3)).off + 1, none⟩ = some (.int .i64 ((qau l0 qaJ).f1.f0)) ∧ w'.cell? ⟨(qdi.add ((qaJ).toNat * 3)).block, (qdi.add ((qaJ).toNat * 3)).off + 2, none⟩ = some (.int .i64 ((qau l0 qaJ).f1.f1))) (ds := [9]) #[false, false, false, false, false, false, false, false, false, false] (by kernel_rfl) rfl rfl ⟨(qai qbL.out 0).trans rfl, (qai qbL.out 1).trans rfl, ((HB.out.cell (World.block_lt_of_cell? w _ qgV)).trans qgV), ((HB.out.cell (World.block_lt_of_cell? w _ qgU)).trans qgU), ((HB.out.cell (World.block_lt_of_cell? w _ qgT)).trans qgT)⟩ (fun hHeld => ?_); refine qe5 qal.tab16 qal.bits16 (fun HT_ HW_ => ?_)
                   generalize wc.drew = w41 at qbB qbL qbN HB qdQ qdR qdS hHeld ⊢
                   refine qbp (i := 0) (N := some 73) (v := ?_) (a' := ?_) #[true, false, false, false, false, false, false, false, false, false] rfl rfl (qbe HT_.out (by kernel_rfl)) (fun _ _ _ h => h) (Or.inl ⟨by rfl, ?_⟩) ?_ ?_
                   rotate_left
                   ·
                    intro w'
                    go_simp
                    with_reducible rfl
                   rotate_left
                   ·
                    simp only [Act.put, List.setIfInBounds_toArray, List.set_cons_zero, List.set_cons_succ, qaM, qaR]
                    rfl
                   refine qbp (i := 2) (N := some 75) (v := ?_) (a' := ?_) #[true, false, true, false, false, false, false, false, false, false] rfl rfl (qbe HT_.out (by kernel_rfl)) (fun _ _ _ h => h) (Or.inl ⟨by rfl, ?_⟩) ?_ ?_
                   rotate_left
                   ·
                    intro w'
                    go_simp
                    with_reducible rfl
                   rotate_left
                   ·
                    simp only [Act.put, List.setIfInBounds_toArray, List.set_cons_zero, List.set_cons_succ, qaM, qaR]
                    rfl
                   refine qbp (i := 3) (N := some 76) (v := ?_) (a' := ?_) #[true, false, true, true, false, false, false, false, false, false] rfl rfl (qbe HT_.out (by kernel_rfl)) (fun _ _ _ h => h) (Or.inl ⟨by rfl, ?_⟩) ?_ ?_
                   rotate_left
                   ·
                    intro w'
                    go_simp
                    with_reducible rfl
                   rotate_left
                   ·
                    simp only [Act.put, List.setIfInBounds_toArray, List.set_cons_zero, List.set_cons_succ, qaM, qaR]
                    rfl
                   refine qbp (i := 4) (N := some 77) (v := ?_) (a' := ?_) #[true, false, true, true, true, false, false, false, false, false] rfl rfl (qbe HT_.out (by kernel_rfl)) (fun _ _ _ h => h) (Or.inl ⟨by rfl, ?_⟩) ?_ ?_
                   rotate_left
                   ·
                    intro w'
                    go_simp
                    with_reducible rfl
                   rotate_left
                   ·
                    simp only [Act.put, List.setIfInBounds_toArray, List.set_cons_zero, List.set_cons_succ, qaM, qaR]
                    rfl
                   refine qbp (i := 5) (N := some 78) (v := ?_) (a' := ?_) #[true, false, true, true, true, true, false, false, false, false] rfl rfl (qbe HT_.out (by kernel_rfl)) (fun _ _ _ h => h) (Or.inl ⟨by rfl, ?_⟩) ?_ ?_
                   rotate_left
                   ·
                    intro w'
                    go_simp
                    with_reducible rfl
                   rotate_left
                   ·
                    simp only [Act.put, List.setIfInBounds_toArray, List.set_cons_zero, List.set_cons_succ, qaM, qaR]
                    rfl
                   refine take_ (i := 1) (N := some 74) (v := ?_) (a' := ?_) #[true, true, true, true, true, true, false, false, false, false] rfl rfl (qcJ HT_.out HW_.out (by kernel_rfl)) (fun _ _ _ h => h) (Or.inl ⟨by rfl, ?_⟩) hHeld ?_ ?_
                   rotate_left
                   ·
                    rintro w' ⟨s0, s1, s2, s3, s4⟩
                    go_simp
                    with_reducible rfl
                   rotate_left
                   ·
                    simp only [Act.put, List.setIfInBounds_toArray, List.set_cons_zero, List.set_cons_succ, qaM, qaR]
                    rfl
                   refine take_ (i := 6) (N := some 79) (v := ?_) (a' := ?_) #[true, true, true, true, true, true, true, false, false, false] rfl rfl (qcJ HT_.out HW_.out (by kernel_rfl)) (fun _ _ _ h => h) (Or.inl ⟨by rfl, ?_⟩) hHeld ?_ ?_
                   rotate_left
                   ·
                    rintro w' ⟨s0, s1, s2, s3, s4⟩
                    go_simp
                    with_reducible rfl
                   rotate_left
                   ·
                    simp only [Act.put, List.setIfInBounds_toArray, List.set_cons_zero, List.set_cons_succ, qaM, qaR]
                    rfl
                   refine qbp (i := 7) (N := some 80) (v := ?_) (a' := ?_) #[true, true, true, true, true, true, true, true, false, false] rfl rfl (qbe HT_.out (by kernel_rfl)) (fun _ _ _ h => h) (Or.inl ⟨by rfl, ?_⟩) ?_ ?_
                   rotate_left
                   ·
                    intro w'
                    go_simp
                    with_reducible rfl
                   rotate_left
                   ·
                    simp only [Act.put, List.setIfInBounds_toArray, List.set_cons_zero, List.set_cons_succ, qaM, qaR]
                    rfl
                   refine qbp (i := 8) (N := some 81) (v := ?_) (a' := ?_) #[true, true, true, true, true, true, true, true, true, false] rfl rfl (qbe HT_.out (by kernel_rfl)) (fun _ _ _ h => h) (Or.inl ⟨by rfl, ?_⟩) ?_ ?_
                   rotate_left
                   ·
                    intro w'
                    go_simp
                    with_reducible rfl
                   rotate_left
                   ·
                    simp only [Act.put, List.setIfInBounds_toArray, List.set_cons_zero, List.set_cons_succ, qaM, qaR]
                    rfl
                   refine qkZ (i := 9) (N := none) #[true, true, true, true, true, true, true, true, true, true] rfl rfl (qeg HT_.out (by kernel_rfl)) (by decide) (fun K hK => ?_); have hs42 : w41.cell? ⟨qc9, 0, none⟩ = some (.int .i64 qbx) := (qai qbL.out 0).trans rfl; have qC6 := qaj qbL.out 0; have qwE := qeh.out; have qwF := qdz.out; have qwG := qgS.out; have qwH := qdb.out; refine qiv (w1 := ?_) (by rfl) rfl ?_ ?_
                   rotate_left
                   ·
                    go_simp
                    rfl
                   refine hK.out _ _ ?_; clear hK K; refine qhv (qf8 HT_.out (by kernel_rfl)) ?_; have qtN := qfa.out; have qtO := qdP.out; have quf := qdz.out; have qug := qdb.out; have qwI : w41.cell? ⟨qdH, 0, none⟩ = some (.int .i64 ((qau l0 qaJ).f1.f0)) := (qai qbN.out 0).trans rfl; have qwJ : w41.cell? ⟨qdH, 1, none⟩ = some (.int .i64 ((qau l0 qaJ).f1.f1)) := (qai qbN.out 1).trans rfl; have qwK := qaj qbN.out 0; have qwL := qaj qbN.out 1
                   try go_wp2
                   have n0_ : qaa ((w41.setCell ⟨qc9, 0, none⟩ (.int .i64 (wrap64 (qbx + ((qau l0 qaJ).f0))))).heap[qds]? = some (.cells #[.int .i64 0, .int .i64 0] 25 (0, 0))) := ⟨by (with_reducible repeat (first | refine qac ?_ _ | refine qae ?_ | refine qab ?_ _)); refine qao ?_ qeh.out _; (with_reducible repeat (first | refine qac ?_ _ | refine qae ?_ | refine qab ?_ _)); exact qbB.out⟩; have n1_ : qaa ((w41.setCell ⟨qc9, 0, none⟩ (.int .i64 (wrap64 (qbx + ((qau l0 qaJ).f0))))).heap[qc9]? = some (.cells #[.int .i64 (wrap64 (qbx + ((qau l0 qaJ).f0))), .int .i64 qbK] 25 (0, 0))) := ⟨by (with_reducible repeat (first | refine qac ?_ _ | refine qae ?_ | refine qab ?_ _)); refine qaw (cs := #[.int .i64 qbx, .int .i64 qbK]) ?_ 0 _ rfl; (with_reducible repeat (first | refine qac ?_ _ | refine qae ?_ | refine qab ?_ _)); exact qbL.out⟩; have n2_ : qaa ((w41.setCell ⟨qc9, 0, none⟩ (.int .i64 (wrap64 (qbx + ((qau l0 qaJ).f0))))).heap[qdH]? = some (.cells #[.int .i64 ((qau l0 qaJ).f1.f0), .int .i64 ((qau l0 qaJ).f1.f1)] 25 (0, 0))) := ⟨by (with_reducible repeat (first | refine qac ?_ _ | refine qae ?_ | refine qab ?_ _)); refine qao ?_ qdz.out _; (with_reducible repeat (first | refine qac ?_ _ | refine qae ?_ | refine qab ?_ _)); exact qbN.out⟩; have n3_ : qaa (Below w.heap.size w (w41.setCell ⟨qc9, 0, none⟩ (.int .i64 (wrap64 (qbx + ((qau l0 qaJ).f0)))))) := ⟨by repeat (first | (with_reducible first | exact HB.out | apply qaf | apply qad | apply qah | refine qag ?_ qdA.out | refine qag ?_ qfL.out | refine qag ?_ qhV.out) | exact HB.out)⟩
                   (try clear qbB)
                   (try clear qbL)
                   (try clear qbN)
                   (try clear HB)
                   generalize (w41.setCell ⟨qc9, 0, none⟩ (.int .i64 (wrap64 (qbx + ((qau l0 qaJ).f0))))) = w46 at n0_ n1_ n2_ n3_ ⊢
                   have qbB := n0_; have qbL := n1_; have qbN := n2_; have HB := n3_; clear n0_ n1_ n2_ n3_; have n0_ := qaa.mk (qae qbB.out); have n1_ := qaa.mk (qae qbL.out); have n2_ := qaa.mk (qae qbN.out); have n3_ := qaa.mk (qah HB.out); clear qbB qbL qbN HB; have qbB := n0_; have qbL := n1_; have qbN := n2_; have HB := n3_; clear n0_ n1_ n2_ n3_; have p126 : 0 ≤ (qaJ : Int) := of_decide_eq_true (by first | (with_reducible assumption) | assumption); have q126 : qaJ < (l0.length : Int) := of_decide_eq_true (by first | (with_reducible assumption) | assumption); obtain ⟨quh, e126, qiR, qiS, qiT⟩ := qfl HR0.out qaJ p126 q126; have qoi := qiT; have qoj := qiS; have qok := qiR; obtain rfl : qdi = quh := (by injection e126); replace qiR := (HB.out.cell (World.block_lt_of_cell? w _ qiR)).trans qiR; replace qiS := (HB.out.cell (World.block_lt_of_cell? w _ qiS)).trans qiS; replace qiT := (HB.out.cell (World.block_lt_of_cell? w _ qiT)).trans qiT; replace p126 := eq_true p126; replace q126 := eq_true q126; refine qgB (n := 10) (S := fun w' => w'.cell? ⟨qc9, 0, none⟩ = some (.int .i64 (wrap64 (qbx + ((qau l0 qaJ).f0)))) ∧ w'.cell? ⟨qc9, 1, none⟩ = some (.int .i64 qbK) ∧ w'.cell? (qdi.add ((qaJ).toNat * 3)) = some (.int .i64 ((qau l0 qaJ).f0)) ∧ w'.cell? ⟨(qdi.add ((qaJ).toNat * 3)).block, (qdi.add ((qaJ).toNat * 3)).off + 1, none⟩ = some (.int .i64 ((qau l0 qaJ).f1.f0)) ∧ w'.cell? ⟨(qdi.add ((qaJ).toNat * 3)).block, (qdi.add ((qaJ).toNat * 3)).off + 2, none⟩ = some (.int .i64 ((qau l0 qaJ).f1.f1))) (ds := [9]) #[false, false, false, false, false, false, false, false, false, false] (by kernel_rfl) rfl rfl ⟨(qai qbL.out 0).trans rfl, (qai qbL.out 1).trans rfl, ((HB.out.cell (World.block_lt_of_cell? w _ qok)).trans qok), ((HB.out.cell (World.block_lt_of_cell? w _ qoj)).trans qoj), ((HB.out.cell (World.block_lt_of_cell? w _ qoi)).trans qoi)⟩ (fun hHeld => ?_); refine qe5 qal.tab18 qal.bits18 (fun HT_ HW_ => ?_)
                   generalize w46.drew = w47 at qbB qbL qbN HB qiR qiS qiT hHeld ⊢
                   refine qbp (i := 0) (N := some 92) (v := ?_) (a' := ?_) #[true, false, false, false, false, false, false, false, false, false] rfl rfl (qbe HT_.out (by kernel_rfl)) (fun _ _ _ h => h) (Or.inl ⟨by rfl, ?_⟩) ?_ ?_
                   rotate_left
                   ·
                    intro w'
                    go_simp
                    with_reducible rfl
                   rotate_left
                   ·
                    simp only [Act.put, List.setIfInBounds_toArray, List.set_cons_zero, List.set_cons_succ, qaM, qaR]
                    rfl
                   refine qbp (i := 2) (N := some 94) (v := ?_) (a' := ?_) #[true, false, true, false, false, false, false, false, false, false] rfl rfl (qbe HT_.out (by kernel_rfl)) (fun _ _ _ h => h) (Or.inl ⟨by rfl, ?_⟩) ?_ ?_
                   rotate_left
                   ·
                    intro w'
                    go_simp
                    with_reducible rfl
                   rotate_left
                   ·
                    simp only [Act.put, List.setIfInBounds_toArray, List.set_cons_zero, List.set_cons_succ, qaM, qaR]
                    rfl
                   refine qbp (i := 3) (N := some 95) (v := ?_) (a' := ?_) #[true, false, true, true, false, false, false, false, false, false] rfl rfl (qbe HT_.out (by kernel_rfl)) (fun _ _ _ h => h) (Or.inl ⟨by rfl, ?_⟩) ?_ ?_
                   rotate_left
                   ·
                    intro w'
                    go_simp
                    with_reducible rfl
                   rotate_left
                   ·
                    simp only [Act.put, List.setIfInBounds_toArray, List.set_cons_zero, List.set_cons_succ, qaM, qaR]
                    rfl
                   refine qbp (i := 4) (N := some 96) (v := ?_) (a' := ?_) #[true, false, true, true, true, false, false, false, false, false] rfl rfl (qbe HT_.out (by kernel_rfl)) (fun _ _ _ h => h) (Or.inl ⟨by rfl, ?_⟩) ?_ ?_
                   rotate_left
                   ·
                    intro w'
                    go_simp
                    with_reducible rfl
                   rotate_left
                   ·
                    simp only [Act.put, List.setIfInBounds_toArray, List.set_cons_zero, List.set_cons_succ, qaM, qaR]
                    rfl
                   refine qbp (i := 5) (N := some 97) (v := ?_) (a' := ?_) #[true, false, true, true, true, true, false, false, false, false] rfl rfl (qbe HT_.out (by kernel_rfl)) (fun _ _ _ h => h) (Or.inl ⟨by rfl, ?_⟩) ?_ ?_
                   rotate_left
                   ·
                    intro w'
                    go_simp
                    with_reducible rfl
                   rotate_left
                   ·
                    simp only [Act.put, List.setIfInBounds_toArray, List.set_cons_zero, List.set_cons_succ, qaM, qaR]
                    rfl
                   refine take_ (i := 1) (N := some 93) (v := ?_) (a' := ?_) #[true, true, true, true, true, true, false, false, false, false] rfl rfl (qcJ HT_.out HW_.out (by kernel_rfl)) (fun _ _ _ h => h) (Or.inl ⟨by rfl, ?_⟩) hHeld ?_ ?_
                   rotate_left
                   ·
                    rintro w' ⟨s0, s1, s2, s3, s4⟩
                    go_simp
                    with_reducible rfl
                   rotate_left
                   ·
                    simp only [Act.put, List.setIfInBounds_toArray, List.set_cons_zero, List.set_cons_succ, qaM, qaR]
                    rfl
                   refine take_ (i := 6) (N := some 98) (v := ?_) (a' := ?_) #[true, true, true, true, true, true, true, false, false, false] rfl rfl (qcJ HT_.out HW_.out (by kernel_rfl)) (fun _ _ _ h => h) (Or.inl ⟨by rfl, ?_⟩) hHeld ?_ ?_
                   rotate_left
                   ·
                    rintro w' ⟨s0, s1, s2, s3, s4⟩
                    go_simp
                    with_reducible rfl
                   rotate_left
                   ·
                    simp only [Act.put, List.setIfInBounds_toArray, List.set_cons_zero, List.set_cons_succ, qaM, qaR]
                    rfl
                   refine qbp (i := 7) (N := some 99) (v := ?_) (a' := ?_) #[true, true, true, true, true, true, true, true, false, false] rfl rfl (qbe HT_.out (by kernel_rfl)) (fun _ _ _ h => h) (Or.inl ⟨by rfl, ?_⟩) ?_ ?_
                   rotate_left
                   ·
                    intro w'
                    go_simp
                    with_reducible rfl
                   rotate_left
                   ·
                    simp only [Act.put, List.setIfInBounds_toArray, List.set_cons_zero, List.set_cons_succ, qaM, qaR]
                    rfl
                   refine qbp (i := 8) (N := some 100) (v := ?_) (a' := ?_) #[true, true, true, true, true, true, true, true, true, false] rfl rfl (qbe HT_.out (by kernel_rfl)) (fun _ _ _ h => h) (Or.inl ⟨by rfl, ?_⟩) ?_ ?_
                   rotate_left
                   ·
                    intro w'
                    go_simp
                    with_reducible rfl
                   rotate_left
                   ·
                    simp only [Act.put, List.setIfInBounds_toArray, List.set_cons_zero, List.set_cons_succ, qaM, qaR]
                    rfl
                   refine qkZ (i := 9) (N := none) #[true, true, true, true, true, true, true, true, true, true] rfl rfl (qeg HT_.out (by kernel_rfl)) (by decide) (fun K hK => ?_); have hs48 : w47.cell? ⟨qc9, 1, none⟩ = some (.int .i64 qbK) := (qai qbL.out 1).trans rfl; have qC7 := qaj qbL.out 1; have qwM := qeh.out; have qwN := qdz.out; have qwO := qgS.out; have qwP := qdb.out; refine qiv (w1 := ?_) (by rfl) rfl ?_ ?_
                   rotate_left
                   ·
                    go_simp
                    rfl
                   refine hK.out _ _ ?_; clear hK K; refine qhv (qf8 HT_.out (by kernel_rfl)) ?_
                   try go_wp2
                   go_roundg kj23
                   case measure => have := HK1.out; have := HJ4.out; have := HJ14.out; have := HK4.out; have := HJ23.out; omega
                   case rel => exact ⟨(wrap64 (qaJ + 1)), (wrap64 (qbx + ((qau l0 qaJ).f0))), (wrap64 (qbK + ((qau l0 qaJ).f0))), (by first | rfl | (simp; done) | (simp [*]; done)), H', ⟨by have := HK1.out; have := HJ4.out; have := HJ14.out; have := HK4.out; have := HJ23.out; omega⟩, ⟨by (with_reducible repeat (first | refine qac ?_ _ | refine qae ?_ | refine qab ?_ _)); refine qao ?_ qeh.out _; (with_reducible repeat (first | refine qac ?_ _ | refine qae ?_ | refine qab ?_ _)); exact qbB.out⟩, ⟨by (with_reducible repeat (first | refine qac ?_ _ | refine qae ?_ | refine qab ?_ _)); refine qaw (cs := #[.int .i64 (wrap64 (qbx + ((qau l0 qaJ).f0))), .int .i64 qbK]) ?_ 1 _ rfl; (with_reducible repeat (first | refine qac ?_ _ | refine qae ?_ | refine qab ?_ _)); exact qbL.out⟩, ⟨by repeat (first | (with_reducible first | exact HB.out | apply qaf | apply qad | apply qah | refine qag ?_ qdA.out | refine qag ?_ qfL.out | refine qag ?_ qhV.out) | exact HB.out)⟩⟩
                  rw [if_neg c40] at H; have c40b0 : decide (a1 ≤ ((qau l0 qaJ).f1.f1)) = false := decide_eq_false c40; clear c40; have H' := qaa.mk H; clear H
                  try go_wp2
                  have n0_ := qaa.mk (qae qbB.out); have n1_ := qaa.mk (qae qbL.out); have n2_ := qaa.mk (qae qbN.out); have n3_ := qaa.mk (qah HB.out); clear qbB qbL qbN HB; have qbB := n0_; have qbL := n1_; have qbN := n2_; have HB := n3_; clear n0_ n1_ n2_ n3_; have p125 : 0 ≤ (qaJ : Int) := of_decide_eq_true (by first | (with_reducible assumption) | assumption); have q125 : qaJ < (l0.length : Int) := of_decide_eq_true (by first | (with_reducible assumption) | assumption); obtain ⟨qlb, e125, qdQ, qdR, qdS⟩ := qfl HR0.out qaJ p125 q125; have qgT := qdS; have qgU := qdR; have qgV := qdQ; obtain rfl : qdi = qlb := (by injection e125); replace qdQ := (HB.out.cell (World.block_lt_of_cell? w _ qdQ)).trans qdQ; replace qdR := (HB.out.cell (World.block_lt_of_cell? w _ qdR)).trans qdR; replace qdS := (HB.out.cell (World.block_lt_of_cell? w _ qdS)).trans qdS; replace p125 := eq_true p125; replace q125 := eq_true q125; refine qgB (n := 10) (S := fun w' => w'.cell? ⟨qc9, 0, none⟩ = some (.int .i64 qbx) ∧ w'.cell? ⟨qc9, 1, none⟩ = some (.int .i64 qbK) ∧ w'.cell? (qdi.add ((qaJ).toNat * 3)) = some (.int .i64 ((qau l0 qaJ).f0)) ∧ w'.cell? ⟨(qdi.add ((qaJ).toNat * 3)).block, (qdi.add ((qaJ).toNat * 3)).off + 1, none⟩ = some (.int .i64 ((qau l0 qaJ).f1.f0)) ∧ w'.cell? ⟨(qdi.add ((qaJ).toNat * 3)).block, (qdi.add ((qaJ).toNat * 3)).off + 2, none⟩ = some (.int .i64 ((qau l0 qaJ).f1.f1))) (ds := [9]) #[false, false, false, false, false, false, false, false, false, false] (by kernel_rfl) rfl rfl ⟨(qai qbL.out 0).trans rfl, (qai qbL.out 1).trans rfl, ((HB.out.cell (World.block_lt_of_cell? w _ qgV)).trans qgV), ((HB.out.cell (World.block_lt_of_cell? w _ qgU)).trans qgU), ((HB.out.cell (World.block_lt_of_cell? w _ qgT)).trans qgT)⟩ (fun hHeld => ?_); refine qe5 qal.tab16 qal.bits16 (fun HT_ HW_ => ?_)
                  generalize wc.drew = w49 at qbB qbL qbN HB qdQ qdR qdS hHeld ⊢
                  refine qbp (i := 0) (N := some 73) (v := ?_) (a' := ?_) #[true, false, false, false, false, false, false, false, false, false] rfl rfl (qbe HT_.out (by kernel_rfl)) (fun _ _ _ h => h) (Or.inl ⟨by rfl, ?_⟩) ?_ ?_
                  rotate_left
                  ·
                   intro w'
                   go_simp
                   with_reducible rfl
                  rotate_left
                  ·
                   simp only [Act.put, List.setIfInBounds_toArray, List.set_cons_zero, List.set_cons_succ, qaM, qaR]
                   rfl
                  refine qbp (i := 2) (N := some 75) (v := ?_) (a' := ?_) #[true, false, true, false, false, false, false, false, false, false] rfl rfl (qbe HT_.out (by kernel_rfl)) (fun _ _ _ h => h) (Or.inl ⟨by rfl, ?_⟩) ?_ ?_
                  rotate_left
                  ·
                   intro w'
                   go_simp
                   with_reducible rfl
                  rotate_left
                  ·
                   simp only [Act.put, List.setIfInBounds_toArray, List.set_cons_zero, List.set_cons_succ, qaM, qaR]
                   rfl
                  refine qbp (i := 3) (N := some 76) (v := ?_) (a' := ?_) #[true, false, true, true, false, false, false, false, false, false] rfl rfl (qbe HT_.out (by kernel_rfl)) (fun _ _ _ h => h) (Or.inl ⟨by rfl, ?_⟩) ?_ ?_
                  rotate_left
                  ·
                   intro w'
                   go_simp
                   with_reducible rfl
                  rotate_left
                  ·
                   simp only [Act.put, List.setIfInBounds_toArray, List.set_cons_zero, List.set_cons_succ, qaM, qaR]
                   rfl
                  refine qbp (i := 4) (N := some 77) (v := ?_) (a' := ?_) #[true, false, true, true, true, false, false, false, false, false] rfl rfl (qbe HT_.out (by kernel_rfl)) (fun _ _ _ h => h) (Or.inl ⟨by rfl, ?_⟩) ?_ ?_
                  rotate_left
                  ·
                   intro w'
                   go_simp
                   with_reducible rfl
                  rotate_left
                  ·
                   simp only [Act.put, List.setIfInBounds_toArray, List.set_cons_zero, List.set_cons_succ, qaM, qaR]
                   rfl
                  refine qbp (i := 5) (N := some 78) (v := ?_) (a' := ?_) #[true, false, true, true, true, true, false, false, false, false] rfl rfl (qbe HT_.out (by kernel_rfl)) (fun _ _ _ h => h) (Or.inl ⟨by rfl, ?_⟩) ?_ ?_
                  rotate_left
                  ·
                   intro w'
                   go_simp
                   with_reducible rfl
                  rotate_left
                  ·
                   simp only [Act.put, List.setIfInBounds_toArray, List.set_cons_zero, List.set_cons_succ, qaM, qaR]
                   rfl
                  refine take_ (i := 1) (N := some 74) (v := ?_) (a' := ?_) #[true, true, true, true, true, true, false, false, false, false] rfl rfl (qcJ HT_.out HW_.out (by kernel_rfl)) (fun _ _ _ h => h) (Or.inl ⟨by rfl, ?_⟩) hHeld ?_ ?_
                  rotate_left
                  ·
                   rintro w' ⟨s0, s1, s2, s3, s4⟩
                   go_simp
                   with_reducible rfl
                  rotate_left
                  ·
                   simp only [Act.put, List.setIfInBounds_toArray, List.set_cons_zero, List.set_cons_succ, qaM, qaR]
                   rfl
                  refine take_ (i := 6) (N := some 79) (v := ?_) (a' := ?_) #[true, true, true, true, true, true, true, false, false, false] rfl rfl (qcJ HT_.out HW_.out (by kernel_rfl)) (fun _ _ _ h => h) (Or.inl ⟨by rfl, ?_⟩) hHeld ?_ ?_
                  rotate_left
                  ·
                   rintro w' ⟨s0, s1, s2, s3, s4⟩
                   go_simp
                   with_reducible rfl
                  rotate_left
                  ·
                   simp only [Act.put, List.setIfInBounds_toArray, List.set_cons_zero, List.set_cons_succ, qaM, qaR]
                   rfl
                  refine qbp (i := 7) (N := some 80) (v := ?_) (a' := ?_) #[true, true, true, true, true, true, true, true, false, false] rfl rfl (qbe HT_.out (by kernel_rfl)) (fun _ _ _ h => h) (Or.inl ⟨by rfl, ?_⟩) ?_ ?_
                  rotate_left
                  ·
                   intro w'
                   go_simp
                   with_reducible rfl
                  rotate_left
                  ·
                   simp only [Act.put, List.setIfInBounds_toArray, List.set_cons_zero, List.set_cons_succ, qaM, qaR]
                   rfl
                  refine qbp (i := 8) (N := some 81) (v := ?_) (a' := ?_) #[true, true, true, true, true, true, true, true, true, false] rfl rfl (qbe HT_.out (by kernel_rfl)) (fun _ _ _ h => h) (Or.inl ⟨by rfl, ?_⟩) ?_ ?_
                  rotate_left
                  ·
                   intro w'
                   go_simp
                   with_reducible rfl
                  rotate_left
                  ·
                   simp only [Act.put, List.setIfInBounds_toArray, List.set_cons_zero, List.set_cons_succ, qaM, qaR]
                   rfl
                  refine qkZ (i := 9) (N := none) #[true, true, true, true, true, true, true, true, true, true] rfl rfl (qeg HT_.out (by kernel_rfl)) (by decide) (fun K hK => ?_); have hs50 : w49.cell? ⟨qc9, 0, none⟩ = some (.int .i64 qbx) := (qai qbL.out 0).trans rfl; have qC8 := qaj qbL.out 0; have qwQ := qeh.out; have qwR := qdz.out; have qwS := qgS.out; have qwT := qdb.out; refine qiv (w1 := ?_) (by rfl) rfl ?_ ?_
                  rotate_left
                  ·
                   go_simp
                   rfl
                  refine hK.out _ _ ?_; clear hK K; refine qhv (qf8 HT_.out (by kernel_rfl)) ?_; have qtT := qfa.out; have qtU := qdP.out; have qC9 := qdz.out; have qDa := qdb.out; have qwU : w49.cell? ⟨qdH, 0, none⟩ = some (.int .i64 ((qau l0 qaJ).f1.f0)) := (qai qbN.out 0).trans rfl; have qwV : w49.cell? ⟨qdH, 1, none⟩ = some (.int .i64 ((qau l0 qaJ).f1.f1)) := (qai qbN.out 1).trans rfl; have qwW := qaj qbN.out 0; have qwX := qaj qbN.out 1
                  try go_wp2
                  go_roundg kj23
                  case measure => have := HK1.out; have := HJ4.out; have := HJ14.out; have := HK4.out; have := HJ23.out; omega
                  case rel => exact ⟨(wrap64 (qaJ + 1)), (wrap64 (qbx + ((qau l0 qaJ).f0))), (qbK), (by first | rfl | (simp; done) | (simp [*]; done)), H', ⟨by have := HK1.out; have := HJ4.out; have := HJ14.out; have := HK4.out; have := HJ23.out; omega⟩, ⟨by (with_reducible repeat (first | refine qac ?_ _ | refine qae ?_ | refine qab ?_ _)); refine qao ?_ qeh.out _; (with_reducible repeat (first | refine qac ?_ _ | refine qae ?_ | refine qab ?_ _)); exact qbB.out⟩, ⟨by (with_reducible repeat (first | refine qac ?_ _ | refine qae ?_ | refine qab ?_ _)); refine qaw (cs := #[.int .i64 qbx, .int .i64 qbK]) ?_ 0 _ rfl; (with_reducible repeat (first | refine qac ?_ _ | refine qae ?_ | refine qab ?_ _)); exact qbL.out⟩, ⟨by repeat (first | (with_reducible first | exact HB.out | apply qaf | apply qad | apply qah | refine qag ?_ qdA.out | refine qag ?_ qfL.out | refine qag ?_ qhV.out) | exact HB.out)⟩⟩
                 rw [if_neg c39] at H; have c39b0 : decide (((qau l0 qaJ).f1.f0) ≤ a2) = false := decide_eq_false c39; clear c39; have H' := qaa.mk H; clear H
                 try go_wp2
                 have n0_ := qaa.mk (qae qbB.out); have n1_ := qaa.mk (qae qbL.out); have n2_ := qaa.mk (qae qbN.out); have n3_ := qaa.mk (qah HB.out); clear qbB qbL qbN HB; have qbB := n0_; have qbL := n1_; have qbN := n2_; have HB := n3_; clear n0_ n1_ n2_ n3_; have p125 : 0 ≤ (qaJ : Int) := of_decide_eq_true (by first | (with_reducible assumption) | assumption); have q125 : qaJ < (l0.length : Int) := of_decide_eq_true (by first | (with_reducible assumption) | assumption); obtain ⟨qlb, e125, qdQ, qdR, qdS⟩ := qfl HR0.out qaJ p125 q125; have qgT := qdS; have qgU := qdR; have qgV := qdQ; obtain rfl : qdi = qlb := (by injection e125); replace qdQ := (HB.out.cell (World.block_lt_of_cell? w _ qdQ)).trans qdQ; replace qdR := (HB.out.cell (World.block_lt_of_cell? w _ qdR)).trans qdR; replace qdS := (HB.out.cell (World.block_lt_of_cell? w _ qdS)).trans qdS; replace p125 := eq_true p125; replace q125 := eq_true q125; refine qgB (n := 10) (S := fun w' => w'.cell? ⟨qc9, 0, none⟩ = some (.int .i64 qbx) ∧ w'.cell? ⟨qc9, 1, none⟩ = some (.int .i64 qbK) ∧ w'.cell? (qdi.add ((qaJ).toNat * 3)) = some (.int .i64 ((qau l0 qaJ).f0)) ∧ w'.cell? ⟨(qdi.add ((qaJ).toNat * 3)).block, (qdi.add ((qaJ).toNat * 3)).off + 1, none⟩ = some (.int .i64 ((qau l0 qaJ).f1.f0)) ∧ w'.cell? ⟨(qdi.add ((qaJ).toNat * 3)).block, (qdi.add ((qaJ).toNat * 3)).off + 2, none⟩ = some (.int .i64 ((qau l0 qaJ).f1.f1))) (ds := [9]) #[false, false, false, false, false, false, false, false, false, false] (by kernel_rfl) rfl rfl ⟨(qai qbL.out 0).trans rfl, (qai qbL.out 1).trans rfl, ((HB.out.cell (World.block_lt_of_cell? w _ qgV)).trans qgV), ((HB.out.cell (World.block_lt_of_cell? w _ qgU)).trans qgU), ((HB.out.cell (World.block_lt_of_cell? w _ qgT)).trans qgT)⟩ (fun hHeld => ?_); refine qe5 qal.tab16 qal.bits16 (fun HT_ HW_ => ?_)
                 generalize wc.drew = w54 at qbB qbL qbN HB qdQ qdR qdS hHeld ⊢
                 refine qbp (i := 0) (N := some 73) (v := ?_) (a' := ?_) #[true, false, false, false, false, false, false, false, false, false] rfl rfl (qbe HT_.out (by kernel_rfl)) (fun _ _ _ h => h) (Or.inl ⟨by rfl, ?_⟩) ?_ ?_
                 rotate_left
                 ·
                  intro w'
                  go_simp
                  with_reducible rfl
                 rotate_left
                 ·
                  simp only [Act.put, List.setIfInBounds_toArray, List.set_cons_zero, List.set_cons_succ, qaM, qaR]
                  rfl
                 refine qbp (i := 2) (N := some 75) (v := ?_) (a' := ?_) #[true, false, true, false, false, false, false, false, false, false] rfl rfl (qbe HT_.out (by kernel_rfl)) (fun _ _ _ h => h) (Or.inl ⟨by rfl, ?_⟩) ?_ ?_
                 rotate_left
                 ·
                  intro w'
                  go_simp
                  with_reducible rfl
                 rotate_left
                 ·
                  simp only [Act.put, List.setIfInBounds_toArray, List.set_cons_zero, List.set_cons_succ, qaM, qaR]
                  rfl
                 refine qbp (i := 3) (N := some 76) (v := ?_) (a' := ?_) #[true, false, true, true, false, false, false, false, false, false] rfl rfl (qbe HT_.out (by kernel_rfl)) (fun _ _ _ h => h) (Or.inl ⟨by rfl, ?_⟩) ?_ ?_
                 rotate_left
                 ·
                  intro w'
                  go_simp
                  with_reducible rfl
                 rotate_left
                 ·
                  simp only [Act.put, List.setIfInBounds_toArray, List.set_cons_zero, List.set_cons_succ, qaM, qaR]
                  rfl
                 refine qbp (i := 4) (N := some 77) (v := ?_) (a' := ?_) #[true, false, true, true, true, false, false, false, false, false] rfl rfl (qbe HT_.out (by kernel_rfl)) (fun _ _ _ h => h) (Or.inl ⟨by rfl, ?_⟩) ?_ ?_
                 rotate_left
                 ·
                  intro w'
                  go_simp
                  with_reducible rfl
                 rotate_left
                 ·
                  simp only [Act.put, List.setIfInBounds_toArray, List.set_cons_zero, List.set_cons_succ, qaM, qaR]
                  rfl
                 refine qbp (i := 5) (N := some 78) (v := ?_) (a' := ?_) #[true, false, true, true, true, true, false, false, false, false] rfl rfl (qbe HT_.out (by kernel_rfl)) (fun _ _ _ h => h) (Or.inl ⟨by rfl, ?_⟩) ?_ ?_
                 rotate_left
                 ·
                  intro w'
                  go_simp
                  with_reducible rfl
                 rotate_left
                 ·
                  simp only [Act.put, List.setIfInBounds_toArray, List.set_cons_zero, List.set_cons_succ, qaM, qaR]
                  rfl
                 refine take_ (i := 1) (N := some 74) (v := ?_) (a' := ?_) #[true, true, true, true, true, true, false, false, false, false] rfl rfl (qcJ HT_.out HW_.out (by kernel_rfl)) (fun _ _ _ h => h) (Or.inl ⟨by rfl, ?_⟩) hHeld ?_ ?_
                 rotate_left
                 ·
                  rintro w' ⟨s0, s1, s2, s3, s4⟩
                  go_simp
                  with_reducible rfl
                 rotate_left
                 ·
                  simp only [Act.put, List.setIfInBounds_toArray, List.set_cons_zero, List.set_cons_succ, qaM, qaR]
                  rfl
                 refine take_ (i := 6) (N := some 79) (v := ?_) (a' := ?_) #[true, true, true, true, true, true, true, false, false, false] rfl rfl (qcJ HT_.out HW_.out (by kernel_rfl)) (fun _ _ _ h => h) (Or.inl ⟨by rfl, ?_⟩) hHeld ?_ ?_
                 rotate_left
                 ·
                  rintro w' ⟨s0, s1, s2, s3, s4⟩
                  go_simp
                  with_reducible rfl
                 rotate_left
                 ·
                  simp only [Act.put, List.setIfInBounds_toArray, List.set_cons_zero, List.set_cons_succ, qaM, qaR]
                  rfl
                 refine qbp (i := 7) (N := some 80) (v := ?_) (a' := ?_) #[true, true, true, true, true, true, true, true, false, false] rfl rfl (qbe HT_.out (by kernel_rfl)) (fun _ _ _ h => h) (Or.inl ⟨by rfl, ?_⟩) ?_ ?_
                 rotate_left
                 ·
                  intro w'
                  go_simp
                  with_reducible rfl
                 rotate_left
                 ·
                  simp only [Act.put, List.setIfInBounds_toArray, List.set_cons_zero, List.set_cons_succ, qaM, qaR]
                  rfl
                 refine qbp (i := 8) (N := some 81) (v := ?_) (a' := ?_) #[true, true, true, true, true, true, true, true, true, false] rfl rfl (qbe HT_.out (by kernel_rfl)) (fun _ _ _ h => h) (Or.inl ⟨by rfl, ?_⟩) ?_ ?_
                 rotate_left
                 ·
                  intro w'
                  go_simp
                  with_reducible rfl
                 rotate_left
                 ·
                  simp only [Act.put, List.setIfInBounds_toArray, List.set_cons_zero, List.set_cons_succ, qaM, qaR]
                  rfl
                 refine qkZ (i := 9) (N := none) #[true, true, true, true, true, true, true, true, true, true] rfl rfl (qeg HT_.out (by kernel_rfl)) (by decide) (fun K hK => ?_); have hs55 : w54.cell? ⟨qc9, 0, none⟩ = some (.int .i64 qbx) := (qai qbL.out 0).trans rfl; have qui := qaj qbL.out 0; have qrY := qeh.out; have qrZ := qdz.out; have qr0 := qgS.out; have qr1 := qdb.out; refine qiv (w1 := ?_) (by rfl) rfl ?_ ?_
                 rotate_left
                 ·
                  go_simp
                  rfl
                 refine hK.out _ _ ?_; clear hK K; refine qhv (qf8 HT_.out (by kernel_rfl)) ?_; have qtV := qfa.out; have qtW := qdP.out; have qDb := qdz.out; have qDc := qdb.out; have qwY : w54.cell? ⟨qdH, 0, none⟩ = some (.int .i64 ((qau l0 qaJ).f1.f0)) := (qai qbN.out 0).trans rfl; have qwZ : w54.cell? ⟨qdH, 1, none⟩ = some (.int .i64 ((qau l0 qaJ).f1.f1)) := (qai qbN.out 1).trans rfl; have qw0 := qaj qbN.out 0; have qw1 := qaj qbN.out 1
                 try go_wp2
                 go_roundg kj23
                 case measure => have := HK1.out; have := HJ4.out; have := HJ14.out; have := HK4.out; have := HJ23.out; omega
                 case rel => exact ⟨(wrap64 (qaJ + 1)), (wrap64 (qbx + ((qau l0 qaJ).f0))), (qbK), (by first | rfl | (simp; done) | (simp [*]; done)), H', ⟨by have := HK1.out; have := HJ4.out; have := HJ14.out; have := HK4.out; have := HJ23.out; omega⟩, ⟨by (with_reducible repeat (first | refine qac ?_ _ | refine qae ?_ | refine qab ?_ _)); refine qao ?_ qeh.out _; (with_reducible repeat (first | refine qac ?_ _ | refine qae ?_ | refine qab ?_ _)); exact qbB.out⟩, ⟨by (with_reducible repeat (first | refine qac ?_ _ | refine qae ?_ | refine qab ?_ _)); refine qaw (cs := #[.int .i64 qbx, .int .i64 qbK]) ?_ 0 _ rfl; (with_reducible repeat (first | refine qac ?_ _ | refine qae ?_ | refine qab ?_ _)); exact qbL.out⟩, ⟨by repeat (first | (with_reducible first | exact HB.out | apply qaf | apply qad | apply qah | refine qag ?_ qdA.out | refine qag ?_ qfL.out | refine qag ?_ qhV.out) | exact HB.out)⟩⟩
                rw [if_neg c38] at H
                exact absurd H (by simp)
               rw [if_neg c37] at H
               exact absurd H (by simp)
              replace c36 := Bool.eq_false_iff.mpr c36; subst c36
              have H1 : (if ((qau l0 qaJ).f1.f0) ≤ a2 then (if ((qau l0 qaJ).f1.f1) ≥ a1 then (if 0 ≤ qaJ then (if qaJ < (l0.length : Int) then (qal.l1 kj23 l0 a1 a2 (wrap64 (qaJ + 1)) qbx (wrap64 (qbK + ((qau l0 qaJ).f0)))) else (none)) else (none)) else (qal.l1 kj23 l0 a1 a2 (wrap64 (qaJ + 1)) qbx qbK)) else (qal.l1 kj23 l0 a1 a2 (wrap64 (qaJ + 1)) qbx qbK)) = some (r1, r2, r3) := by rw [if_neg (show ¬ (false = true) by decide)] at H; exact H
              clear H; have H := H1; clear H1
              by_cases c59 : ((qau l0 qaJ).f1.f0) ≤ a2
              ·
               rw [if_pos c59] at H; have c59b0 : decide (((qau l0 qaJ).f1.f0) ≤ a2) = true := decide_eq_true c59; clear c59
               by_cases c60 : ((qau l0 qaJ).f1.f1) ≥ a1
               ·
                rw [if_pos c60] at H; have c60b0 : decide (a1 ≤ ((qau l0 qaJ).f1.f1)) = true := decide_eq_true c60; clear c60
                by_cases c61 : 0 ≤ qaJ
                ·
                 rw [if_pos c61] at H; have c61b0 : decide (0 ≤ qaJ) = true := decide_eq_true c61; clear c61
                 by_cases c62 : qaJ < (l0.length : Int)
                 ·
                  rw [if_pos c62] at H; have c62b0 : decide (qaJ < (l0.length : Int)) = true := decide_eq_true c62; clear c62; have H' := qaa.mk H; clear H; have quj := qfa.out; have quk := qdP.out; have qDd := qdz.out; have qDe := qdb.out; have qw2 : wc.cell? ⟨qdH, 0, none⟩ = some (.int .i64 ((qau l0 qaJ).f1.f0)) := (qai qbN.out 0).trans rfl; have qw3 : wc.cell? ⟨qdH, 1, none⟩ = some (.int .i64 ((qau l0 qaJ).f1.f1)) := (qai qbN.out 1).trans rfl; have qw4 := qaj qbN.out 0; have qw5 := qaj qbN.out 1
                  try go_wp2
                  have n0_ := qaa.mk (qae qbB.out); have n1_ := qaa.mk (qae qbL.out); have n2_ := qaa.mk (qae qbN.out); have n3_ := qaa.mk (qah HB.out); clear qbB qbL qbN HB; have qbB := n0_; have qbL := n1_; have qbN := n2_; have HB := n3_; clear n0_ n1_ n2_ n3_; have p127 : 0 ≤ (qaJ : Int) := of_decide_eq_true (by first | (with_reducible assumption) | assumption); have q127 : qaJ < (l0.length : Int) := of_decide_eq_true (by first | (with_reducible assumption) | assumption); obtain ⟨qul, e127, qiU, qiV, qiW⟩ := qfl HR0.out qaJ p127 q127; have qol := qiW; have qom := qiV; have qon := qiU; obtain rfl : qdi = qul := (by injection e127); replace qiU := (HB.out.cell (World.block_lt_of_cell? w _ qiU)).trans qiU; replace qiV := (HB.out.cell (World.block_lt_of_cell? w _ qiV)).trans qiV; replace qiW := (HB.out.cell (World.block_lt_of_cell? w _ qiW)).trans qiW; replace p127 := eq_true p127; replace q127 := eq_true q127; refine qgB (n := 10) (S := fun w' => w'.cell? ⟨qc9, 0, none⟩ = some (.int .i64 qbx) ∧ w'.cell? ⟨qc9, 1, none⟩ = some (.int .i64 qbK) ∧ w'.cell? (qdi.add ((qaJ).toNat * 3)) = some (.int .i64 ((qau l0 qaJ).f0)) ∧ w'.cell? ⟨(qdi.add ((qaJ).toNat * 3)).block, (qdi.add ((qaJ).toNat * 3)).off + 1, none⟩ = some (.int .i64 ((qau l0 qaJ).f1.f0)) ∧ w'.cell? ⟨(qdi.add ((qaJ).toNat * 3)).block, (qdi.add ((qaJ).toNat * 3)).off + 2, none⟩ = some (.int .i64 ((qau l0 qaJ).f1.f1))) (ds := [9]) #[false, false, false, false, false, false, false, false, false, false] (by kernel_rfl) rfl rfl ⟨(qai qbL.out 0).trans rfl, (qai qbL.out 1).trans rfl, ((HB.out.cell (World.block_lt_of_cell? w _ qon)).trans qon), ((HB.out.cell (World.block_lt_of_cell? w _ qom)).trans qom), ((HB.out.cell (World.block_lt_of_cell? w _ qol)).trans qol)⟩ (fun hHeld => ?_); refine qe5 qal.tab18 qal.bits18 (fun HT_ HW_ => ?_)
                  generalize wc.drew = w66 at qbB qbL qbN HB qiU qiV qiW hHeld ⊢
                  refine qbp (i := 0) (N := some 92) (v := ?_) (a' := ?_) #[true, false, false, false, false, false, false, false, false, false] rfl rfl (qbe HT_.out (by kernel_rfl)) (fun _ _ _ h => h) (Or.inl ⟨by rfl, ?_⟩) ?_ ?_
                  rotate_left
                  ·
                   intro w'
                   go_simp
                   with_reducible rfl
                  rotate_left
                  ·
                   simp only [Act.put, List.setIfInBounds_toArray, List.set_cons_zero, List.set_cons_succ, qaM, qaR]
                   rfl
                  refine qbp (i := 2) (N := some 94) (v := ?_) (a' := ?_) #[true, false, true, false, false, false, false, false, false, false] rfl rfl (qbe HT_.out (by kernel_rfl)) (fun _ _ _ h => h) (Or.inl ⟨by rfl, ?_⟩) ?_ ?_
                  rotate_left
                  ·
                   intro w'
                   go_simp
                   with_reducible rfl
                  rotate_left
                  ·
                   simp only [Act.put, List.setIfInBounds_toArray, List.set_cons_zero, List.set_cons_succ, qaM, qaR]
                   rfl
                  refine qbp (i := 3) (N := some 95) (v := ?_) (a' := ?_) #[true, false, true, true, false, false, false, false, false, false] rfl rfl (qbe HT_.out (by kernel_rfl)) (fun _ _ _ h => h) (Or.inl ⟨by rfl, ?_⟩) ?_ ?_
                  rotate_left
                  ·
                   intro w'
                   go_simp
                   with_reducible rfl
                  rotate_left
                  ·
                   simp only [Act.put, List.setIfInBounds_toArray, List.set_cons_zero, List.set_cons_succ, qaM, qaR]
                   rfl
                  refine qbp (i := 4) (N := some 96) (v := ?_) (a' := ?_) #[true, false, true, true, true, false, false, false, false, false] rfl rfl (qbe HT_.out (by kernel_rfl)) (fun _ _ _ h => h) (Or.inl ⟨by rfl, ?_⟩) ?_ ?_
                  rotate_left
                  ·
                   intro w'
                   go_simp
                   with_reducible rfl
                  rotate_left
                  ·
                   simp only [Act.put, List.setIfInBounds_toArray, List.set_cons_zero, List.set_cons_succ, qaM, qaR]
                   rfl
                  refine qbp (i := 5) (N := some 97) (v := ?_) (a' := ?_) #[true, false, true, true, true, true, false, false, false, false] rfl rfl (qbe HT_.out (by kernel_rfl)) (fun _ _ _ h => h) (Or.inl ⟨by rfl, ?_⟩) ?_ ?_
                  rotate_left
                  ·
                   intro w'
                   go_simp
                   with_reducible rfl
                  rotate_left
                  ·
                   simp only [Act.put, List.setIfInBounds_toArray, List.set_cons_zero, List.set_cons_succ, qaM, qaR]
                   rfl
                  refine take_ (i := 1) (N := some 93) (v := ?_) (a' := ?_) #[true, true, true, true, true, true, false, false, false, false] rfl rfl (qcJ HT_.out HW_.out (by kernel_rfl)) (fun _ _ _ h => h) (Or.inl ⟨by rfl, ?_⟩) hHeld ?_ ?_
                  rotate_left
                  ·
                   rintro w' ⟨s0, s1, s2, s3, s4⟩
                   go_simp
                   with_reducible rfl
                  rotate_left
                  ·
                   simp only [Act.put, List.setIfInBounds_toArray, List.set_cons_zero, List.set_cons_succ, qaM, qaR]
                   rfl
                  refine take_ (i := 6) (N := some 98) (v := ?_) (a' := ?_) #[true, true, true, true, true, true, true, false, false, false] rfl rfl (qcJ HT_.out HW_.out (by kernel_rfl)) (fun _ _ _ h => h) (Or.inl ⟨by rfl, ?_⟩) hHeld ?_ ?_
                  rotate_left
                  ·
                   rintro w' ⟨s0, s1, s2, s3, s4⟩
                   go_simp
                   with_reducible rfl
                  rotate_left
                  ·
                   simp only [Act.put, List.setIfInBounds_toArray, List.set_cons_zero, List.set_cons_succ, qaM, qaR]
                   rfl
                  refine qbp (i := 7) (N := some 99) (v := ?_) (a' := ?_) #[true, true, true, true, true, true, true, true, false, false] rfl rfl (qbe HT_.out (by kernel_rfl)) (fun _ _ _ h => h) (Or.inl ⟨by rfl, ?_⟩) ?_ ?_
                  rotate_left
                  ·
                   intro w'
                   go_simp
                   with_reducible rfl
                  rotate_left
                  ·
                   simp only [Act.put, List.setIfInBounds_toArray, List.set_cons_zero, List.set_cons_succ, qaM, qaR]
                   rfl
                  refine qbp (i := 8) (N := some 100) (v := ?_) (a' := ?_) #[true, true, true, true, true, true, true, true, true, false] rfl rfl (qbe HT_.out (by kernel_rfl)) (fun _ _ _ h => h) (Or.inl ⟨by rfl, ?_⟩) ?_ ?_
                  rotate_left
                  ·
                   intro w'
                   go_simp
                   with_reducible rfl
                  rotate_left
                  ·
                   simp only [Act.put, List.setIfInBounds_toArray, List.set_cons_zero, List.set_cons_succ, qaM, qaR]
                   rfl
                  refine qkZ (i := 9) (N := none) #[true, true, true, true, true, true, true, true, true, true] rfl rfl (qeg HT_.out (by kernel_rfl)) (by decide) (fun K hK => ?_); have hs67 : w66.cell? ⟨qc9, 1, none⟩ = some (.int .i64 qbK) := (qai qbL.out 1).trans rfl; have qDf := qaj qbL.out 1; have qw6 := qeh.out; have qw7 := qdz.out; have qw8 := qgS.out; have qw9 := qdb.out; refine qiv (w1 := ?_) (by rfl) rfl ?_ ?_
                  rotate_left
                  ·
                   go_simp
                   rfl
                  refine hK.out _ _ ?_; clear hK K; refine qhv (qf8 HT_.out (by kernel_rfl)) ?_
                  try go_wp2
                  go_roundg kj23
                  case measure => have := HK1.out; have := HJ4.out; have := HJ14.out; have := HK4.out; have := HJ23.out; omega
                  case rel => exact ⟨(wrap64 (qaJ + 1)), (qbx), (wrap64 (qbK + ((qau l0 qaJ).f0))), (by first | rfl | (simp; done) | (simp [*]; done)), H', ⟨by have := HK1.out; have := HJ4.out; have := HJ14.out; have := HK4.out; have := HJ23.out; omega⟩, ⟨by (with_reducible repeat (first | refine qac ?_ _ | refine qae ?_ | refine qab ?_ _)); refine qao ?_ qeh.out _; (with_reducible repeat (first | refine qac ?_ _ | refine qae ?_ | refine qab ?_ _)); exact qbB.out⟩, ⟨by (with_reducible repeat (first | refine qac ?_ _ | refine qae ?_ | refine qab ?_ _)); refine qaw (cs := #[.int .i64 qbx, .int .i64 qbK]) ?_ 1 _ rfl; (with_reducible repeat (first | refine qac ?_ _ | refine qae ?_ | refine qab ?_ _)); exact qbL.out⟩, ⟨by repeat (first | (with_reducible first | exact HB.out | apply qaf | apply qad | apply qah | refine qag ?_ qdA.out | refine qag ?_ qfL.out | refine qag ?_ qhV.out) | exact HB.out)⟩⟩
                 rw [if_neg c62] at H
                 exact absurd H (by simp)
                rw [if_neg c61] at H
                exact absurd H (by simp)
               rw [if_neg c60] at H; have c60b0 : decide (a1 ≤ ((qau l0 qaJ).f1.f1)) = false := decide_eq_false c60; clear c60; have H' := qaa.mk H; clear H; have qt3 := qfa.out; have qt4 := qdP.out; have qum := qdz.out; have qun := qdb.out; have qxa : wc.cell? ⟨qdH, 0, none⟩ = some (.int .i64 ((qau l0 qaJ).f1.f0)) := (qai qbN.out 0).trans rfl; have qxb : wc.cell? ⟨qdH, 1, none⟩ = some (.int .i64 ((qau l0 qaJ).f1.f1)) := (qai qbN.out 1).trans rfl; have qxc := qaj qbN.out 0; have qxd := qaj qbN.out 1
               go_wp2
               go_roundg kj23
               case measure => have := HK1.out; have := HJ4.out; have := HJ14.out; have := HK4.out; have := HJ23.out; omega
               case rel => exact ⟨(wrap64 (qaJ + 1)), (qbx), (qbK), (by first | rfl | (simp; done) | (simp [*]; done)), H', ⟨by have := HK1.out; have := HJ4.out; have := HJ14.out; have := HK4.out; have := HJ23.out; omega⟩, ⟨by (with_reducible repeat (first | refine qac ?_ _ | refine qae ?_ | refine qab ?_ _)); exact qbB.out⟩, ⟨by (with_reducible repeat (first | refine qac ?_ _ | refine qae ?_ | refine qab ?_ _)); exact qbL.out⟩, ⟨by repeat (first | (with_reducible first | exact HB.out | apply qaf | apply qad | apply qah | refine qag ?_ qdA.out | refine qag ?_ qfL.out | refine qag ?_ qhV.out) | exact HB.out)⟩⟩
              rw [if_neg c59] at H; have c59b0 : decide (((qau l0 qaJ).f1.f0) ≤ a2) = false := decide_eq_false c59; clear c59; have H' := qaa.mk H; clear H; have qqw := qfa.out; have qqx := qdP.out; have qup := qdz.out; have quq := qdb.out; have qr2 : wc.cell? ⟨qdH, 0, none⟩ = some (.int .i64 ((qau l0 qaJ).f1.f0)) := (qai qbN.out 0).trans rfl; have qr3 : wc.cell? ⟨qdH, 1, none⟩ = some (.int .i64 ((qau l0 qaJ).f1.f1)) := (qai qbN.out 1).trans rfl; have qr4 := qaj qbN.out 0; have qr5 := qaj qbN.out 1
              go_wp2
              go_roundg kj23
              case measure => have := HK1.out; have := HJ4.out; have := HJ14.out; have := HK4.out; have := HJ23.out; omega
              case rel => exact ⟨(wrap64 (qaJ + 1)), (qbx), (qbK), (by first | rfl | (simp; done) | (simp [*]; done)), H', ⟨by have := HK1.out; have := HJ4.out; have := HJ14.out; have := HK4.out; have := HJ23.out; omega⟩, ⟨by (with_reducible repeat (first | refine qac ?_ _ | refine qae ?_ | refine qab ?_ _)); exact qbB.out⟩, ⟨by (with_reducible repeat (first | refine qac ?_ _ | refine qae ?_ | refine qab ?_ _)); exact qbL.out⟩, ⟨by repeat (first | (with_reducible first | exact HB.out | apply qaf | apply qad | apply qah | refine qag ?_ qdA.out | refine qag ?_ qfL.out | refine qag ?_ qhV.out) | exact HB.out)⟩⟩
           rw [if_neg c23] at H
           exact absurd H (by simp)
          rw [if_neg c22] at H; have c22b0 : decide (qaJ < (l0.length : Int)) = false := decide_eq_false c22; clear c22; simp only [Option.some.injEq, Prod.mk.injEq] at H; obtain ⟨rfl, rfl, rfl⟩ := H; have qt7 := qgS.out; have qt8 := qeh.out; have qn6 : wr.cell? ⟨qc9, 0, none⟩ = some (.int .i64 qbx) := (qai qbL.out 0).trans rfl; have qn7 : wr.cell? ⟨qc9, 1, none⟩ = some (.int .i64 qbK) := (qai qbL.out 1).trans rfl; have qn8 := qaj qbL.out 0; have qn9 := qaj qbL.out 1; have qxe : wr.cell? ⟨qds, 0, none⟩ = some (.int .i64 0) := (qai qbB.out 0).trans rfl; have qxf : wr.cell? ⟨qds, 1, none⟩ = some (.int .i64 0) := (qai qbB.out 1).trans rfl; have qxg := qaj qbB.out 0; have qxh := qaj qbB.out 1
          go_wp2
          refine bodyPost_ret (qf4 rfl _ _ qds 25 #[.int .i64 qbx, .int .i64 qbK] (0, 0) _ rfl (by (with_reducible repeat (first | refine qac ?_ _ | refine qae ?_ | refine qab ?_ _)); refine qaw (cs := #[.int .i64 qbx, .int .i64 0]) ?_ 1 _ rfl; (with_reducible repeat (first | refine qac ?_ _ | refine qae ?_ | refine qab ?_ _)); refine qaw (cs := #[.int .i64 0, .int .i64 0]) ?_ 0 _ rfl; (with_reducible repeat (first | refine qac ?_ _ | refine qae ?_ | refine qab ?_ _)); exact qbB.out) Try.underlying25 rfl (by kernel_rfl)) rfl ?_
          exact ⟨by first | rfl | (simp [qaG, qaH] <;> rfl) | (simp [*, qaG, qaH] <;> rfl), by repeat (first | (with_reducible first | exact HB.out | apply qaf | apply qad | apply qah | refine qag ?_ qdA.out | refine qag ?_ qfL.out) | exact HB.out)⟩
     replace c14 := Bool.eq_false_iff.mpr c14; subst c14
     have H1 : (some (0, 0, 90)) = some (r1, r2, r3) := by rw [if_neg (show ¬ (false = true) by decide)] at H; exact H
     clear H; have H := H1; clear H1; simp only [Option.some.injEq, Prod.mk.injEq] at H; obtain ⟨rfl, rfl, rfl⟩ := H; have qoa : wc.cell? ⟨qds, 0, none⟩ = some (.int .i64 0) := (qai qbB.out 0).trans rfl; have qrW : wc.cell? ⟨qds, 1, none⟩ = some (.int .i64 0) := (qai qbB.out 1).trans rfl; have qob := qaj qbB.out 0; have qrX := qaj qbB.out 1
     go_wp2
     refine bodyPost_ret (qf4 rfl _ _ qds 25 #[.int .i64 0, .int .i64 0] (0, 0) _ rfl (by (with_reducible repeat (first | refine qac ?_ _ | refine qae ?_ | refine qab ?_ _)); refine qaw (cs := #[.int .i64 0, .int .i64 0]) ?_ 1 _ rfl; (with_reducible repeat (first | refine qac ?_ _ | refine qae ?_ | refine qab ?_ _)); refine qaw (cs := #[.int .i64 0, .int .i64 0]) ?_ 0 _ rfl; (with_reducible repeat (first | refine qac ?_ _ | refine qae ?_ | refine qab ?_ _)); exact qbB.out) Try.underlying25 rfl (by kernel_rfl)) rfl ?_
     exact ⟨by first | rfl | (simp [qaG, qaH] <;> rfl) | (simp [*, qaG, qaH] <;> rfl), by repeat (first | (with_reducible first | exact HB.out | apply qaf | apply qad | apply qah | refine qag ?_ qdA.out) | exact HB.out)⟩
end Go.Proofs.Ytmhomdohhihlcaa.P
namespace Go.Proofs.Ytmhomdohhihlcaa.P
open Go.RowKit Go.Proofs.YtmhomdohhihlcaaW.PrintWords Go.Proofs.YtmhomdohhihlcaaW.PrintLast Go.Proofs.YtmhomdohhihlcaaW.PrintMore
def ar6 (n : List Int) : List Value := [.int .i64 (rd n 0), .int .i64 (rd n 1), .int .i64 (rd n 2), .int .i64 (rd n 3), .int .i64 (rd n 4), .int .i64 (rd n 5)]
def Is6 (W : World) (g : Nat) (n : List Int) : Prop := W.heap[g]? = some (.cells (ar6 n).toArray 115 (0, 0))
namespace Is6
variable {W : World} {g : Nat} {n : List Int}
theorem lt (h : Is6 W g n) : g < W.heap.size := qaA h
theorem cells (h : Is6 W g n) : W.cell? ⟨g, 0, none⟩ = some (.int .i64 (rd n 0)) ∧ W.cell? ⟨g, 1, none⟩ = some (.int .i64 (rd n 1)) ∧ W.cell? ⟨g, 2, none⟩ = some (.int .i64 (rd n 2)) ∧ W.cell? ⟨g, 3, none⟩ = some (.int .i64 (rd n 3)) ∧ W.cell? ⟨g, 4, none⟩ = some (.int .i64 (rd n 4)) ∧ W.cell? ⟨g, 5, none⟩ = some (.int .i64 (rd n 5)) :=
 ⟨(qai h 0).trans rfl, (qai h 1).trans rfl, (qai h 2).trans rfl, (qai h 3).trans rfl, (qai h 4).trans rfl, (qai h 5).trans rfl⟩
theorem frozen (h : Is6 W g n) : W.frozen? ⟨g, 0, none⟩ = false ∧ W.frozen? ⟨g, 1, none⟩ = false ∧ W.frozen? ⟨g, 2, none⟩ = false ∧ W.frozen? ⟨g, 3, none⟩ = false ∧ W.frozen? ⟨g, 4, none⟩ = false ∧ W.frozen? ⟨g, 5, none⟩ = false :=
 ⟨qaj h 0, qaj h 1, qaj h 2, qaj h 3, qaj h 4, qaj h 5⟩
theorem cell (h : Is6 W g n) (i : Nat) (hi : i < 6) : W.cell? ⟨g, i, none⟩ = some (.int .i64 (rd n i)) := by
 rw [qai h i]
 match i, hi with
 | 0, _ => rfl
 | 1, _ => rfl
 | 2, _ => rfl
 | 3, _ => rfl
 | 4, _ => rfl
 | 5, _ => rfl
 | i + 6, hi => omega
theorem celli (h : Is6 W g n) (i : Int) (h0 : 0 ≤ i) (h6 : i < 6) : W.cell? ⟨g, i.toNat, none⟩ = some (.int .i64 (rd n i)) := by
 have e := h.cell i.toNat (by omega)
 rwa [show ((i.toNat : Nat) : Int) = i by omega] at e
theorem frz (h : Is6 W g n) (i : Nat) : W.frozen? ⟨g, i, none⟩ = false := qaj h i
theorem qrx (n : List Int) (hn : n.length = 6) (i : Nat) (hi : i < 6) (x : Int) : (ar6 n).toArray.setIfInBounds i (.int .i64 x) = (ar6 (n.set i x)).toArray := by
 match n, hn with
 | [a, b, c, d, e, f], _ =>
  match i, hi with
  | 0, _ => rfl
  | 1, _ => rfl
  | 2, _ => rfl
  | 3, _ => rfl
  | 4, _ => rfl
  | 5, _ => rfl
  | i + 6, hi => omega
theorem set (h : Is6 W g n) (hn : n.length = 6) (i : Nat) (hi : i < 6) (x : Int) : Is6 (W.setCell ⟨g, i, none⟩ (.int .i64 x)) g (n.set i x) :=
 qaw h i _ (qrx n hn i hi x)
theorem seti (h : Is6 W g n) (hn : n.length = 6) (i : Int) (h0 : 0 ≤ i) (h6 : i < 6) (x : Int) : Is6 (W.setCell ⟨g, i.toNat, none⟩ (.int .i64 x)) g (n.set i.toNat x) := h.set hn i.toNat (by omega) x
theorem far (h : Is6 W g n) {p : Addr} (hp : g ≠ p.block) (u : Value) : Is6 (W.setCell p u) g n := qao h hp u
theorem alloc (h : Is6 W g n) (o : Obj) : Is6 (W.alloc o) g n := qab h o
theorem drew (h : Is6 W g n) : Is6 W.drew g n := h
theorem drewN (h : Is6 W g n) (m : Nat) : Is6 (W.drewN m) g n := h
theorem below {W1 : World} (h : Is6 W g n) (hb : Below W.heap.size W W1) : Is6 W1 g n := qan h hb
theorem put6 (h : Is6 W g n) (m : List Int) : Is6 ((((((W.setCell ⟨g, 0, none⟩ (.int .i64 (rd m 0))).setCell ⟨g, 1, none⟩ (.int .i64 (rd m 1))).setCell ⟨g, 2, none⟩ (.int .i64 (rd m 2))).setCell ⟨g, 3, none⟩ (.int .i64 (rd m 3))).setCell ⟨g, 4, none⟩ (.int .i64 (rd m 4))).setCell ⟨g, 5, none⟩ (.int .i64 (rd m 5))) g m := by
 refine qaw (qaw (qaw (qaw (qaw (qaw h 0 _ rfl) 1 _ rfl) 2 _ rfl) 3 _ rfl) 4 _ rfl) 5 _ ?_
 rfl
end Is6
theorem qoY : ∀ q, q ∈ 3 :: (Kd.int .i64).E → q ≠ 115 := by
 intro q hq
 have hq3 : q = 3 := by simpa [Kd.int, Kd.scalar] using hq
 omega
theorem qpA {W : World} {g b : Nat} {n xs : List Int} {v : Value} (h : Kd.R (Kd.int .i64) 3 W b (fun _ => True) v xs) (h6 : Is6 W g n) (j : Nat) (u : Value) : Kd.R (Kd.int .i64) 3 (W.setCell ⟨g, j, none⟩ u) b (fun _ => True) v xs :=
 Kd.R_mono (Kd.R_far (p := ⟨g, j, none⟩) (Kd.R_types h h6 qoY) (fun _ h => h.2) u) (fun _ _ => trivial)
theorem qo1 (l : List Int) (h : l.length ≤ 6) : splice (ar6 []) 0 (l.map (Value.int .i64)) = ar6 l := by
 match l, h with
 | [], _ => rfl
 | [_], _ => rfl
 | [_, _], _ => rfl
 | [_, _, _], _ => rfl
 | [_, _, _, _], _ => rfl
 | [_, _, _, _, _], _ => rfl
 | [_, _, _, _, _, _], _ => rfl
 | _ :: _ :: _ :: _ :: _ :: _ :: _ :: _, h => simp at h
theorem qiJ {w W : World} {A : Option Addr} {l : List Int} (h : Kd.C (Kd.int .i64) w A l.length l) (hb : Below w.heap.size w W) (h0 : 0 < (l.map (Value.int .i64)).length) : ∃ ad, A = some ad ∧ ∀ j v, (l.map (Value.int .i64))[j]? = some v → W.cell? (ad.add j) = some v := by
 have h := Kd.C_below h hb
 rw [List.length_map] at h0
 obtain ⟨ad, e, hc⟩ := Kd.at_int h 0 (by omega) (by omega)
 refine ⟨ad, e, fun j v hv => ?_⟩
 have hj : j < l.length := by simpa using (List.getElem?_eq_some_iff.1 hv).1
 obtain ⟨ad', e', hc'⟩ := Kd.at_int h j (by omega) (by omega)
 rw [e] at e'
 cases e'
 rw [List.getElem?_map, List.getElem?_eq_getElem hj] at hv
 simp only [Option.map_some, Option.some.injEq] at hv
 rw [← hv]
 rw [show ((j : Int).toNat) = j by simp] at hc'
 rw [hc']
 simp [rd, List.getD_eq_getElem?_getD, List.getElem?_eq_getElem hj]
theorem qrA {l : List Int} (hl : l.length ≤ 6) : (l.map (Value.int .i64)).length = Nat.min l.length 6 := by rw [List.length_map]; exact (Nat.min_eq_left hl).symm
theorem qrt (l : List Int) : ∀ v ∈ l.map (Value.int .i64), v.oneCell' = true := by intro v hv; obtain ⟨x, _, rfl⟩ := List.mem_map.1 hv; rfl
theorem qhH {P : Program} (t e : TypeId) {i : TypeInfo} (ht : P.underlying t = some (.slice e)) (hi : P.info? e = some i) (A : Option Addr) (n c : Nat) (hc : n ≤ c) :
  ∀ W : World, (Instr.slice t (.slice A n c) none (some (.int .i64 n)) (some (.int .i64 n))).run P W = .ok (.slice A n n) W := by
 intro W
 have hel : P.elem t = e := by simp [Program.elem, ht]
 have hu : P.underlying t = some (.slice (P.elem t)) := by rw [hel]; exact ht
 have ha : (A.map fun x => x.add 0) = A := by cases A <;> simp [Addr.add]
 rw [run_slice_hm W t A n c hu .i64 .i64 n n (by omega) (by omega) (by omega), hel]
 simp [sizeOf, typeInfo, hi, sliced, Result.andThen, ha]
theorem qpJ {α : Type} {d : Kd α} {e base base' n c : Nat} {ok : Nat → Prop} {W : World} {A : Option Addr} {xs : List α} (h : d.R e W base ok (.slice A n c) xs) (m : Nat) (hm : m = xs.length) : Kd.V d e W base' ok (.slice A m m) xs := by
 subst hm
 have h2 := Kd.R_reads' h
 have hf := Kd.R_F h
 rw [h2.1] at hf
 exact ⟨A, xs.length, rfl, Nat.le_refl _, hf⟩
theorem qkY {P : Program} {ops : Array Oper} {Q : Exit → Act → World → Prop} {oi : Oper} {N : Option Tmp} {a : Act} {w : World} {K : Act → World → Prop} {f : FuncId} {fn : Func} {ao : Array Operand} {ts : Array TypeId} (hf : P.funcs[f]? = some fn) (hname : (fn.name == "runtime.NumGoroutine") = false) (hb : fn.body.isSome = true) (args : Array Value) (t : Tmp)
  (hw : Region.wanted oi (yielded ops a.tmps) = true) (hN : oi.dst = N) (hop : oi.op = .call { callee := .value (.tmp t), args := ao, argTypes := ts }) (hev : a.eval (.tmp t) = .func (.func f) #[] #[]) (hargs : ao.map a.eval = args)
  (h : Calls P f args w fun e w' => ∃ v, e = .returned v ∧ K (a.put N v) w') : if Region.wanted oi (yielded ops a.tmps) = true then Oper.wp P oi a w K Q else K (a.put N undef) w := by
 refine qoQ f args hw hN ?_ h
 have he := qiM hf hname hb args w
 unfold execOp
 simp [hop, resolve, Deferred.ofValue, invoke, hev, hargs, he]
theorem qiP {P : Program} {ops : Array Oper} {Q : Exit → Act → World → Prop} {rest : List Oper} {oi : Oper} {a : Act} {w : World} (N : Option Tmp) (hd : oi.dst = N) (hg : oi.guard = none) {f : FuncId} {fn : Func} {ao : Array Operand} {ts : Array TypeId} (hf : P.funcs[f]? = some fn) (hname : (fn.name == "runtime.NumGoroutine") = false) (hb : fn.body.isSome = true) (args : Array Value) (t : Tmp) (bound caps : Array Value)
  (hop : oi.op = .call { callee := .value (.tmp t), args := ao, argTypes := ts }) (hev : a.eval (.tmp t) = .func (.func f) bound caps) (hargs : bound ++ ao.map a.eval ++ caps = args)
  (h : Calls P f args w fun e w' => ∃ v, e = .returned v ∧ wpList P ops Q rest (a.put N v) w') : wpList P ops Q (oi :: rest) a w := by
 refine wpList_plain hg fun K hK => ?_
 have he := qiM hf hname hb args w
 have hrun : (execOp a.eval oi).run P w = .ok (.enter f args) w := by
  unfold execOp
  simp [hop, resolve, Deferred.ofValue, invoke, hev, hargs, he]
 unfold Oper.wp
 rw [hrun, Oper.upon_enter]
 refine h.mono fun e w'' hh => ?_
 obtain ⟨v, rfl, hk⟩ := hh
 subst hd
 exact hK _ _ hk
theorem qtl (d : Nat) (w : World) (x0 x1 x2 x3 x4 x5 y0 y1 y2 y3 y4 y5 : Int) :
  (Op.equalIn (d + 2) 115 (.agg #[.int .i64 x0, .int .i64 x1, .int .i64 x2, .int .i64 x3, .int .i64 x4, .int .i64 x5]) (.agg #[.int .i64 y0, .int .i64 y1, .int .i64 y2, .int .i64 y3, .int .i64 y4, .int .i64 y5])).run Try.prog w = .ok (x0 == y0 && (x1 == y1 && (x2 == y2 && (x3 == y3 && (x4 == y4 && (x5 == y5)))))) w := by
 obtain ⟨i0, hi, hz0, hz1, hz2⟩ := info_parts qiw
 have hu := Try.underlying3
 rw [Op.equalIn]
 simp only [Sem.run_bind, run_underlying Try.underlying115, Result.andThen_ok, sizeOf, typeInfo]
 simp only [Std.Legacy.Range.forIn_eq_forIn_range', Std.Legacy.Range.size, List.range'_succ]
 have he : ∀ (a b : Int) (w : World), (Op.equalIn (d + 1) 3 (.int .i64 a) (.int .i64 b)).run Try.prog w = .ok (a == b) w := fun a b w => run_equalIn_int w d 3 .i64 .i64 a b hu
 simp [forIn, part, hi, hz1, he, -beq_eq_false_iff_ne, -beq_iff_eq, -bne_iff_ne]
 repeat (split <;> simp_all [-beq_eq_false_iff_ne, -beq_iff_eq])
end Go.Proofs.Ytmhomdohhihlcaa.P
namespace Go.Proofs.Ytmhomdohhihlcaa.P
open Go.RowKit Go.Maps Go.Proofs.YtmhomdohhihlcaaW.PrintWords Go.Proofs.YtmhomdohhihlcaaW.PrintLast Go.Proofs.YtmhomdohhihlcaaW.PrintMore
theorem qro : laidOutB Try.prog = true := by kernel_rfl
theorem qhE : Keyed Try.prog 139 := Keyed.of_law (deep_law_laid qro (m := 2) (by omega) (of_decide_eq_true (by kernel_rfl)) (by kernel_rfl) (by rw [Try.underlying139]))
theorem qoS : Try.prog.keyType 139 = true := by kernel_rfl
theorem qnl : Try.prog.cellsOf 139 = 1 := by kernel_rfl
theorem qtm : Try.prog.cellsOf 3 = 1 := by kernel_rfl
theorem qo7 : ∃ m, Try.prog.types.size = m + 1 := ⟨Try.prog.types.size - 1, by
 have : 0 < Try.prog.types.size := of_decide_eq_true (by kernel_rfl)
 omega⟩
theorem qkT {c : Int} (hc : (Lit.int .i64 c).wf = true) : keyOf Try.prog 139 (.agg #[.int .i64 c]) = some (.string (keyBytes [.int .i64 c])) := by
 obtain ⟨m, hm⟩ := qo7
 have hkt := qoS
 unfold keyOf
 simp only [Try.underlying139]
 rw [if_pos (by simp [hkt, Value.formed, Try.underlying139, qnl]), hm]
 unfold Program.keyLits
 simp only [Try.underlying139, Value.cells]
 rw [if_pos (by rw [qnl]; exact ⟨rfl, by simp⟩)]
 simp [qtm, Program.keyLits, Try.underlying3, hc]
def qa6.l (x : Int) : Nat → List S136 → Int → Int → Int × Int
 | _, [], a, b => (a, b)
 | i, c :: cs, a, b => if (Go.bits .and .i64 (shr .i64 x (i : Int)) 1 == 1) = true then qa6.l x (i + 1) cs (wrap64 (a + c.f0)) (wrap64 (b + c.f1)) else qa6.l x (i + 1) cs a b
def qa6.s (cells : List S136) (x : Int) : Int × Int := qa6.l x 0 cells 0 0
theorem qtx (i : Nat) : (Go.bits .and .i64 (shr .i64 0 (i : Int)) 1 == 1) = false := by
 have : shr .i64 0 (i : Int) = 0 := by simp [shr]
 rw [this]
 rfl
theorem qlY : ∀ (cells : List S136) (i : Nat) (a b : Int), qa6.l 0 i cells a b = (a, b)
 | [], _, _, _ => rfl
 | c :: cs, i, a, b => by rw [qa6.l, if_neg (by rw [qtx]; decide)]; exact qlY cs _ _ _
def MapI (W : World) (bm : Nat) (cells : List S136) : Prop :=
 ∃ (es : Array MapEntry) (clock : Nat), W.heap[bm]? = some (.map es clock) ∧ ∀ e ∈ es.toList, ∃ c : Int, (Lit.int .i64 c).wf = true ∧ e.key = .agg #[.int .i64 c] ∧ e.val = .agg #[.int .i64 (qa6.s cells c).1, .int .i64 (qa6.s cells c).2]
theorem MapI.lt {W : World} {bm : Nat} {cells : List S136} (h : MapI W bm cells) : bm < W.heap.size := by
 obtain ⟨es, clock, hb, _⟩ := h
 exact (Array.getElem?_eq_some_iff.1 hb).1
theorem MapI.keep {W W1 : World} {bm : Nat} {cells : List S136} (h : MapI W bm cells) (hk : W1.heap[bm]? = W.heap[bm]?) : MapI W1 bm cells := by
 obtain ⟨es, clock, hb, hs⟩ := h
 exact ⟨es, clock, hk.trans hb, hs⟩
theorem qrs (w : World) : (zeroValue 136).run Try.prog w = .ok (.agg #[.int .i64 0, .int .i64 0]) w := by kernel_rfl
theorem qp9 {a b : Int} (h : (Value.agg #[.int .i64 a]) = .agg #[.int .i64 b]) : a = b := by
 injection h with h
 injection h with h
 injection h with h
 injection h
theorem MapI.look {W : World} {bm : Nat} {cells : List S136} (h : MapI W bm cells) {x : Int} (hx : (Lit.int .i64 x).wf = true) :
  ∃ (b : Bool) (a1 a2 : Int), ((b = false ∧ a1 = 0 ∧ a2 = 0) ∨ (b = true ∧ a1 = (qa6.s cells x).1 ∧ a2 = (qa6.s cells x).2)) ∧
   ∀ W1 : World, W1.heap[bm]? = W.heap[bm]? → (Instr.lookup 140 (.map (some bm)) (.agg #[.int .i64 x]) true).run Try.prog W1 = .ok (.tuple #[.agg #[.int .i64 a1, .int .i64 a2], .bool b]) W1 := by
 obtain ⟨es, clock, hb, hs⟩ := h
 have hkey := qkT hx
 have hks : ∀ e ∈ es.toList, ∃ l, keyOf Try.prog 139 e.key = some l := fun e he => by
  obtain ⟨c, hc, hk, _⟩ := hs e he
  exact ⟨_, by rw [hk]; exact qkT hc⟩
 by_cases hex : ∃ e ∈ es.toList, e.key = .agg #[.int .i64 x]
 ·
  refine ⟨true, (qa6.s cells x).1, (qa6.s cells x).2, .inr ⟨rfl, rfl, rfl⟩, fun W1 hW => ?_⟩
  have hb1 := hW.trans hb
  rcases qhE.find W1 hkey es.toList hks with ⟨h1, h2⟩ | ⟨j, e0, h1, h2, h3⟩
  ·
   obtain ⟨e, he, hk⟩ := hex
   exact absurd hk (h2 e he)
  ·
   have hm0 : e0 ∈ es.toList := List.mem_of_getElem? h2
   obtain ⟨c, hc, hk, hv⟩ := hs e0 hm0
   have hcx : c = x := qp9 (hk.symm.trans h3)
   subst hcx
   simp [Instr.lookup, run_underlying Try.underlying140, MapKept.run_getObj_map hb1, qhE.check W1 _ hkey, h1, Result.andThen, hv]
 ·
  refine ⟨false, 0, 0, .inl ⟨rfl, rfl, rfl⟩, fun W1 hW => ?_⟩
  have hb1 := hW.trans hb
  rcases qhE.find W1 hkey es.toList hks with ⟨h1, h2⟩ | ⟨j, e0, h1, h2, h3⟩
  ·
   simp [Instr.lookup, run_underlying Try.underlying140, MapKept.run_getObj_map hb1, qhE.check W1 _ hkey, h1, Result.andThen, qrs]
  ·
   exact absurd ⟨e0, List.mem_of_getElem? h2, h3⟩ hex
theorem MapI.store {W : World} {bm : Nat} {cells : List S136} (h : MapI W bm cells) {x : Int} (hx : (Lit.int .i64 x).wf = true) :
  ∃ W1, (Instr.mapUpdate 140 (.map (some bm)) (.agg #[.int .i64 x]) (.agg #[.int .i64 (qa6.s cells x).1, .int .i64 (qa6.s cells x).2])).run Try.prog W = .ok () W1 ∧ MapI W1 bm cells ∧ W.grownBy W1 (some bm) := by
 obtain ⟨es, clock, hb, hs⟩ := h
 have hkey := qkT hx
 have hks : ∀ e ∈ es.toList, ∃ l, keyOf Try.prog 139 e.key = some l := fun e he => by
  obtain ⟨c, hc, hk, _⟩ := hs e he
  exact ⟨_, by rw [hk]; exact qkT hc⟩
 have hgr : ∀ o, W.grownBy (ChangeMaps.setBlock W bm o) (some bm) := fun o => ⟨rfl, rfl, rfl, by simp [ChangeMaps.setBlock], fun i _ hi => ChangeMaps.heap_setBlock_other hb _ (fun e => hi (by rw [e]))⟩
 rcases qhE.find W hkey es.toList hks with ⟨h1, h2⟩ | ⟨j, e0, h1, h2, h3⟩
 ·
  refine ⟨ChangeMaps.setBlock W bm (.map (es.push ⟨.agg #[.int .i64 x], .agg #[.int .i64 (qa6.s cells x).1, .int .i64 (qa6.s cells x).2], clock⟩) (clock + 1)), ?_, ⟨_, _, ChangeMaps.heap_setBlock_same hb _, fun e he => ?_⟩, hgr _⟩
  ·
   simp [Instr.mapUpdate, run_underlying Try.underlying140, MapKept.run_getObj_map hb, qhE.check W false hkey, h1, MapKept.run_setObj_map _ hb, Result.andThen, ChangeMaps.setBlock]
  ·
   simp only [Array.toList_push, List.mem_append, List.mem_singleton] at he
   rcases he with he | rfl
   ·
    exact hs e he
   ·
    exact ⟨x, hx, rfl, rfl⟩
 ·
  have hj : es[j]? = some e0 := by simpa using h2
  refine ⟨ChangeMaps.setBlock W bm (.map (es.modify j (fun e' => { e' with key := .agg #[.int .i64 x], val := .agg #[.int .i64 (qa6.s cells x).1, .int .i64 (qa6.s cells x).2] })) clock), ?_, ⟨_, _, ChangeMaps.heap_setBlock_same hb _, fun e he => ?_⟩, hgr _⟩
  ·
   simp [Instr.mapUpdate, run_underlying Try.underlying140, MapKept.run_getObj_map hb, qhE.check W false hkey, h1, hj, h3, qhE.stays W hkey, MapKept.run_setObj_map _ hb, Result.andThen, ChangeMaps.setBlock]
  ·
   rw [Array.toList_modify, ChangeMaps.modify_eq_set _ _ _ _ h2] at he
   rcases List.mem_or_eq_of_mem_set he with he | rfl
   ·
    exact hs e he
   ·
    exact ⟨x, hx, rfl, rfl⟩
theorem qgG {P : Program} {ops : Array Oper} {rest : List Oper} {o : Oper} {a : Act} {Q : Exit → Act → World → Prop} {W : World} (hg : o.guard = none) (m x : Operand) (t : TypeId) (hop : o.op = .lookup t m x true) {vm vx v : Value} (hm : a.eval m = vm) (hx : a.eval x = vx)
  (hrun : (Instr.lookup t vm vx true).run P W = .ok v W) (h : wpList P ops Q rest (a.put o.dst v) W) : wpList P ops Q (o :: rest) a W := by
 refine wpList_plain hg fun K' hK' => ?_
 unfold Oper.wp
 simp [execOp, hop, hm, hx, hrun, Result.andThen]
 exact hK' _ _ h
theorem qjL {P : Program} {ops : Array Oper} {rest : List Oper} {o : Oper} {a : Act} {Q : Exit → Act → World → Prop} {W W1 : World} (hg : o.guard = none) (m x y : Operand) (t : TypeId) (hop : o.op = .mapUpdate t m x y) {vm vx v : Value} (hm : a.eval m = vm) (hx : a.eval x = vx) (hy : a.eval y = v)
  (hrun : (Instr.mapUpdate t vm vx v).run P W = .ok () W1) (h : wpList P ops Q rest (a.put o.dst undef) W1) : wpList P ops Q (o :: rest) a W := by
 refine wpList_plain hg fun K' hK' => ?_
 unfold Oper.wp
 simp [execOp, hop, hm, hx, hy, hrun, Result.andThen]
 exact hK' _ _ h
theorem qtd (d : Nat) (w : World) (x0 y0 : Int) :
  (Op.equalIn (d + 2) 139 (.agg #[.int .i64 x0]) (.agg #[.int .i64 y0])).run Try.prog w = .ok (x0 == y0) w := by
 refine qpC Try.underlying139 (by kernel_rfl) ?_
 exact qnc (by rfl) (by go_simp; rfl) (by go_simp; rfl) (by go_simp)
attribute [local go_sem high] qtd
theorem qnP (x : Int) (cells : List S136) (i : Nat) (h : i < cells.length) (a b : Int) : qa6.l x i (cells.drop i) a b = if (Go.bits .and .i64 (shr .i64 x (i : Int)) 1 == 1) = true then qa6.l x (i + 1) (cells.drop (i + 1)) (wrap64 (a + (qem cells (i : Int)).f0)) (wrap64 (b + (qem cells (i : Int)).f1)) else qa6.l x (i + 1) (cells.drop (i + 1)) a b := by
 have e : qem cells (i : Int) = cells[i] := by simp [qem, List.getD_eq_getElem?_getD, List.getElem?_eq_getElem h]
 rw [List.drop_eq_getElem_cons h, e]
 rfl
set_option maxHeartbeats 4000000 in
set_option maxRecDepth 100000 in
theorem qkR.calls (A : Option Addr) (n c bm : Nat) (cells : List S136) (x : Int) (w : World) (hr : Kd.C k136 w A cells.length cells) (hc : cells.length ≤ c) (hx : (Lit.int .i64 x).wf = true) (hm : MapI w bm cells) :
  Calls Try.prog 91 #[.agg #[.slice A cells.length c, .map (some bm)], .agg #[.int .i64 x]] w fun e w' =>
   e = .returned (.agg #[.int .i64 (qa6.s cells x).1, .int .i64 (qa6.s cells x).2]) ∧ MapI w' bm cells ∧ Kept w w' (fun k => k = bm) ∧ Below bm w w' := by
 obtain ⟨b, a1, a2, hcase, hrun⟩ := hm.look hx
 have qqB := Try.underlying142
 have qqC := Try.underlying139
 have qpe := Try.underlying136
 have hlt := hm.lt
 cases b with
 | true =>
  obtain ⟨rfl, rfl⟩ : a1 = (qa6.s cells x).1 ∧ a2 = (qa6.s cells x).2 := by simpa using hcase
  have HR := qaa.mk hrun
  clear hrun hcase
  obtain ⟨s1, hs1⟩ : ∃ s1, (qa6.s cells x).1 = s1 := ⟨_, rfl⟩
  obtain ⟨s2, hs2⟩ : ∃ s2, (qa6.s cells x).2 = s2 := ⟨_, rfl⟩
  rw [hs1, hs2] at HR ⊢
  go_enter Try.func91, Try.ntmps91
  go_wp2_with (at_lookup; refine qgG rfl _ _ 140 rfl rfl rfl (HR.out _ ?hw) ?_; (case hw => exact (qaf (qaf (qaf (Below.refl w.heap.size w) _) _) _).block bm hlt))
  refine bodyPost_ret (v := .agg #[.int .i64 s1, .int .i64 s2]) (by simp [results, Try.results91, go_sem]) rfl ⟨rfl, ?_⟩
  have hB := qaf (qaf (qaf (qaf (Below.refl w.heap.size w) (.cells #[.slice A cells.length c, .map (some bm)] 142)) (.cells #[.int .i64 x] 139)) (.cells #[.int .i64 s1, .int .i64 s2] 136)) (.cells #[.int .i64 s1, .int .i64 s2] 136)
  exact ⟨hm.keep (hB.block bm hlt), Kept.of_below hB _, hB.mono (by omega)⟩
 | false =>
  obtain ⟨rfl, rfl⟩ : a1 = 0 ∧ a2 = 0 := by simpa using hcase
  have HR := qaa.mk hrun
  have HM := qaa.mk hm
  clear hrun hcase hm
  by_cases hx0 : x = 0
  ·
   subst hx0
   have hs1 : (qa6.s cells 0).1 = 0 := by rw [qa6.s, qlY]
   have hs2 : (qa6.s cells 0).2 = 0 := by rw [qa6.s, qlY]
   rw [hs1, hs2]
   go_enter Try.func91, Try.ntmps91
   go_wp2_with (at_lookup; refine qgG rfl _ _ 140 rfl rfl rfl (HR.out _ ?hw) ?_; (case hw => exact (qaf (qaf (qaf (Below.refl w.heap.size w) _) _) _).block bm hlt))
   refine bodyPost_ret (v := .agg #[.int .i64 0, .int .i64 0]) (by simp [results, Try.results91, go_sem]) rfl ⟨rfl, ?_⟩
   have hB := qaf (qaf (qaf (qaf (Below.refl w.heap.size w) (.cells #[.slice A cells.length c, .map (some bm)] 142)) (.cells #[.int .i64 0] 139)) (.cells #[.int .i64 0, .int .i64 0] 136)) (.cells #[.int .i64 0, .int .i64 0] 136)
   exact ⟨HM.out.keep (hB.block bm hlt), Kept.of_below hB _, hB.mono (by omega)⟩
  ·
   have hxb : (x == 0) = false := by simpa using hx0
   have HRd := qaa.mk hr
   have hmx : cells.length ≤ 9223372036854775807 := hr.2.1
   clear hr
   obtain ⟨sm, hsm⟩ : ∃ sm, qa6.s cells x = sm := ⟨_, rfl⟩
   have HSM := qaa.mk hsm
   rw [hsm]
   clear hsm
   go_enter Try.func91, Try.ntmps91
   go_wp2_with (at_lookup; refine qgG rfl _ _ 140 rfl rfl rfl (HR.out _ ?hw) ?_; (case hw => exact (qaf (qaf (qaf (Below.refl w.heap.size w) _) _) _).block bm hlt))
   go_loopg [26] cells.length (fun d v26 wr => ∃ (i : Nat), v26 = .int .i64 (i : Int) ∧ qaa (i + d = cells.length) ∧ qaa (∃ a b, wr.heap[w.heap.size + 1 + 1 + 1]? = some (.cells #[.int .i64 a, .int .i64 b] 136 (0, 0)) ∧ qa6.l x i (cells.drop i) a b = sm) ∧
    qaa (wr.heap[w.heap.size]? = some (.cells #[.slice A cells.length c, .map (some bm)] 142 (0, 0)) ∧ wr.heap[w.heap.size + 1]? = some (.cells #[.int .i64 x] 139 (0, 0)) ∧ wr.heap[w.heap.size + 1 + 1]? = some (.cells #[.int .i64 0, .int .i64 0] 136 (0, 0))) ∧ qaa (Below w.heap.size w wr))
   case atStart =>
    refine ⟨0, rfl, ⟨by omega⟩, ⟨0, 0, ?_, HSM.out⟩, ⟨?_, ?_, ?_⟩, ⟨qaf (qaf (qaf (qaf (Below.refl w.heap.size w) _) _) _) _⟩⟩
    ·
     have := World.alloc_heap_new (((w.alloc (.cells #[.slice A cells.length c, .map (some bm)] 142)).alloc (.cells #[.int .i64 x] 139)).alloc (.cells #[.int .i64 0, .int .i64 0] 136)) (.cells #[.int .i64 0, .int .i64 0] 136)
     rwa [World.size_alloc, World.size_alloc, World.size_alloc] at this
    ·
     exact qab (qab (qab (World.alloc_heap_new w _) _) _) _
    ·
     refine qab (qab ?_ _) _; have := World.alloc_heap_new (w.alloc (.cells #[.slice A cells.length c, .map (some bm)] 142)) (.cells #[.int .i64 x] 139)
     rwa [World.size_alloc] at this
    ·
     refine qab ?_ _; have := World.alloc_heap_new ((w.alloc (.cells #[.slice A cells.length c, .map (some bm)] 142)).alloc (.cells #[.int .i64 x] 139)) (.cells #[.int .i64 0, .int .i64 0] 136)
     rwa [World.size_alloc, World.size_alloc] at this
   case round =>
    obtain ⟨i, rfl, HD, HN, HK, HB⟩ := hrel; obtain ⟨a, b, hn, hl⟩ := HN.out; obtain ⟨hb0, hb1, hb2⟩ := HK.out; have hc00 : wr.cell? ⟨w.heap.size, 0, none⟩ = some (.slice A cells.length c) := (qai hb0 0).trans rfl; have hc01 : wr.cell? ⟨w.heap.size, 1, none⟩ = some (.map (some bm)) := (qai hb0 1).trans rfl; have hc1 : wr.cell? ⟨w.heap.size + 1, 0, none⟩ = some (.int .i64 x) := (qai hb1 0).trans rfl; have hc20 : wr.cell? ⟨w.heap.size + 1 + 1, 0, none⟩ = some (.int .i64 0) := (qai hb2 0).trans rfl; have hc21 : wr.cell? ⟨w.heap.size + 1 + 1, 1, none⟩ = some (.int .i64 0) := (qai hb2 1).trans rfl; have hf20 := qaj hb2 0; have hf21 := qaj hb2 1; have hc30 : wr.cell? ⟨w.heap.size + 1 + 1 + 1, 0, none⟩ = some (.int .i64 a) := (qai hn 0).trans rfl; have hc31 : wr.cell? ⟨w.heap.size + 1 + 1 + 1, 1, none⟩ = some (.int .i64 b) := (qai hn 1).trans rfl; have hf30 := qaj hn 0; have hf31 := qaj hn 1; have hlw := qaA hn; have hbx : ∃ W, W = wr := ⟨_, rfl⟩; have HN' := qaa.mk hn; have HL := qaa.mk hl; have HB0 := qaa.mk hb0; have HB1 := qaa.mk hb1; have HB2 := qaa.mk hb2; clear hn hl hb0 hb1 hb2 hbx HN HK
    by_cases hi : i < cells.length
    ·
     obtain ⟨d, rfl⟩ : ∃ d, gk = d + 1 := ⟨gk - 1, by have := HD.out; omega⟩; obtain ⟨ad, ea, hx0', hx1'⟩ := qnU HRd.out (i : Int) (by omega) (by omega); subst ea; replace hx0' := (HB.out.cell (World.block_lt_of_cell? w _ hx0')).trans hx0'; replace hx1' := (HB.out.cell (World.block_lt_of_cell? w _ hx1')).trans hx1'; rw [Int.toNat_natCast] at hx0' hx1'; have hst := qnP x cells i hi a b; obtain ⟨ji4, hji4⟩ : ∃ j_ : Int, (shr .i64 x (i : Int)) = j_ := ⟨_, rfl⟩; rw [hji4] at hst; have hji4_ : (x / 2 ^ min ((i : Int)).toNat 64) = ji4 := hji4; have hji4z : (i : Int) ≤ 64 → (x / 2 ^ ((i : Int)).toNat) = ji4 := qpP hji4; rw [Int.toNat_natCast] at hji4_ hji4z; clear hji4; obtain ⟨e0, he0⟩ : ∃ e0, (qem cells (i : Int)).f0 = e0 := ⟨_, rfl⟩; obtain ⟨e1, he1⟩ : ∃ e1, (qem cells (i : Int)).f1 = e1 := ⟨_, rfl⟩; rw [he0, he1] at hst; rw [he0] at hx0'; rw [he1] at hx1'; clear he0 he1; have hBa := qaf (Below.refl wr.heap.size wr) (.cells #[.int .i64 e0, .int .i64 e1] 136); have HBa := qaa.mk hBa; have ha1 : (wr.alloc (.cells #[.int .i64 e0, .int .i64 e1] 136)).cell? ⟨w.heap.size + 1, 0, none⟩ = some (.int .i64 x) := (qai (qan HB1.out hBa) 0).trans rfl; have ha30 : (wr.alloc (.cells #[.int .i64 e0, .int .i64 e1] 136)).cell? ⟨w.heap.size + 1 + 1 + 1, 0, none⟩ = some (.int .i64 a) := (qai (qan HN'.out hBa) 0).trans rfl; have ha31 : (wr.alloc (.cells #[.int .i64 e0, .int .i64 e1] 136)).cell? ⟨w.heap.size + 1 + 1 + 1, 1, none⟩ = some (.int .i64 b) := (qai (qan HN'.out hBa) 1).trans rfl; have qDg := qaj (qan HN'.out hBa) 0; have qDh := qaj (qan HN'.out hBa) 1; clear hBa hc00 hc01 hc20 hc21 hf20 hf21
     by_cases hbit : (Go.bits .and .i64 ji4 1 == 1) = true
     ·
      rw [if_pos hbit] at hst; have HL2 := qaa.mk (hst.symm.trans HL.out); clear hst
      go_wp2
      go_roundg d
      case measure => omega
      case rel =>
       refine ⟨i + 1, by simp, ⟨by have := HD.out; omega⟩, ⟨_, _, qab (qaw (qaw HN'.out 0 _ rfl) 1 _ rfl) _, HL2.out⟩, ⟨?_, ?_, ?_⟩, ⟨qaf (qag (qag HB.out (by omega)) (by omega)) _⟩⟩
       ·
        exact qab (qao (qao HB0.out (p := ⟨w.heap.size + 1 + 1 + 1, 0, none⟩) (by simp; omega) _) (p := ⟨w.heap.size + 1 + 1 + 1, 1, none⟩) (by simp; omega) _) _
       ·
        exact qab (qao (qao HB1.out (p := ⟨w.heap.size + 1 + 1 + 1, 0, none⟩) (by simp) _) (p := ⟨w.heap.size + 1 + 1 + 1, 1, none⟩) (by simp) _) _
       ·
        exact qab (qao (qao HB2.out (p := ⟨w.heap.size + 1 + 1 + 1, 0, none⟩) (by simp) _) (p := ⟨w.heap.size + 1 + 1 + 1, 1, none⟩) (by simp) _) _
     ·
      replace hbit := Bool.eq_false_iff.mpr hbit; rw [if_neg (by rw [hbit]; decide)] at hst; have HL2 := qaa.mk (hst.symm.trans HL.out); clear hst
      go_wp2
      go_roundg d
      case measure => omega
      case rel =>
       exact ⟨i + 1, by simp, ⟨by have := HD.out; omega⟩, ⟨_, _, qab HN'.out _, HL2.out⟩, ⟨qab HB0.out _, qab HB1.out _, qab HB2.out _⟩, ⟨qaf HB.out _⟩⟩
    ·
     have hil : i = cells.length := by have := HD.out; omega
     subst hil
     have hfin : (a, b) = sm := by
      have h5 := HL.out; rw [List.drop_length] at h5
      exact h5
     have HSM2 := qaa.mk (show qa6.s cells x = (a, b) by rw [hfin]; exact HSM.out); subst hfin; clear HL HSM; obtain ⟨W1, qpf, hm1, hg1⟩ := (HM.out.keep (HB.out.block bm hlt)).store hx; rw [HSM2.out] at qpf
     have hne : ∀ k, w.heap.size ≤ k → some k ≠ some bm := fun k hk e => by injection e with e; omega
     have kp : ∀ {g : Nat} {o : Obj}, w.heap.size ≤ g → wr.heap[g]? = some o → W1.heap[g]? = some o := fun {g o} hg ho => (hg1.block g (Array.getElem?_eq_some_iff.1 ho).1 (hne g hg)).trans ho
     have hd30 : W1.cell? ⟨w.heap.size + 1 + 1 + 1, 0, none⟩ = some (.int .i64 a) := (qai (kp (by omega) HN'.out) 0).trans rfl; have hd31 : W1.cell? ⟨w.heap.size + 1 + 1 + 1, 1, none⟩ = some (.int .i64 b) := (qai (kp (by omega) HN'.out) 1).trans rfl; have hd20 : W1.cell? ⟨w.heap.size + 1 + 1, 0, none⟩ = some (.int .i64 0) := (qai (kp (by omega) HB2.out) 0).trans rfl; have hd21 : W1.cell? ⟨w.heap.size + 1 + 1, 1, none⟩ = some (.int .i64 0) := (qai (kp (by omega) HB2.out) 1).trans rfl; have qDi := qaj (kp (by omega) HB2.out) 0; have qDj := qaj (kp (by omega) HB2.out) 1; have HG1 := qaa.mk hg1; have HM1 := qaa.mk hm1; have HRU := qaa.mk qpf; have HF2 := qaa.mk (kp (by omega) HB2.out); clear hg1 hm1 qpf kp hne
     go_wp2_with (at_mapUpdate; refine qjL rfl _ _ _ 140 rfl rfl rfl rfl HRU.out ?_)
     refine bodyPost_ret (v := .agg #[.int .i64 a, .int .i64 b]) ?_ rfl ⟨rfl, ?_⟩
     ·
      refine (results_cell_row rfl _ _ (w.heap.size + 1 + 1) 136 #[.int .i64 a, .int .i64 b] (0, 0) _ rfl (qaw (qaw HF2.out 0 _ rfl) 1 _ rfl) Try.underlying136 rfl (by kernel_rfl))
     ·
      have hK1 : Kept w W1 (fun k => k = bm) := (Kept.of_below HB.out _).of_grown HG1.out (fun k e => .inl (by cases e; rfl)); have hB1 : Below bm w W1 := (HB.out.mono (by omega)).grown HG1.out (by omega) (fun k e => by cases e; omega); refine ⟨HM1.out.keep ?_, ?_, ?_⟩
      ·
       exact (Below.heap_setCell _ _ _ bm (by simp; omega)).trans (Below.heap_setCell _ _ _ bm (by simp; omega))
      ·
       exact (hK1.setCell (.inr (by simp; omega)) _).setCell (.inr (by simp; omega)) _
      ·
       exact Below.setCell (Below.setCell hB1 (p := ⟨w.heap.size + 1 + 1, 0, none⟩) (by show bm ≤ w.heap.size + 1 + 1; omega) _) (p := ⟨w.heap.size + 1 + 1, 1, none⟩) (by show bm ≤ w.heap.size + 1 + 1; omega) _
end Go.Proofs.Ytmhomdohhihlcaa.P
namespace Go.Proofs.Ytmhomdohhihlcaa.P
open Go.RowKit Go.Proofs.YtmhomdohhihlcaaW.PrintWords Go.Proofs.YtmhomdohhihlcaaW.PrintLast Go.Proofs.YtmhomdohhihlcaaW.PrintMore
section
variable {l n : Nat} {P : Program} {ops : Array Oper} {Q : Exit → Act → World → Prop}
theorem qkV {o : Oper} {a : Act} {w : World} {K : Act → World → Prop} (ho : ∀ c, o.op ≠ .defer c) (h : o.wp P a w K Q) : o.wpIn (Fence.wide.inRound l) n P a w K Q := by
 unfold Oper.wp at h
 refine ⟨fun f _ => trivial, ?_⟩
 rw [Oper.semAt_plain _ _ _ ho]
 generalize (execOp a.eval o).run P w = r at *
 cases r with
 | ok x w' =>
  cases x <;> simp only [Oper.upon, Oper.uponIn] at h ⊢ <;>
   first
    | exact h
    | exact ⟨fun e => by simp [Fence.wide] at e, CallsIn.inRound l (callsIn_wide.2 h)⟩
    | exact ⟨fun e => by simp [Fence.wide] at e, fun c cs _ => let ⟨v, w', r, s⟩ := h c cs; ⟨v, w', r, stepsIn_wide.2 s⟩⟩
 | halt x w' => cases x <;> simp only [Oper.upon, Oper.uponIn] at h ⊢ <;> exact h
def ql4 (ops : Array Oper) : Prop := ∀ (i : Nat) (o : Oper), ops[i]? = some o → ∀ c, o.op ≠ .defer c
theorem qo9 {ops : Array Oper} (h : ops.all (fun o => match o.op with | .defer _ => false | _ => true) = true) : ql4 ops := by
 intro i o ho c hc
 have hi := (Array.getElem?_eq_some_iff.1 ho).1
 have := Array.all_eq_true.1 h i hi
 rw [(Array.getElem?_eq_some_iff.1 ho).2, hc] at this
 cases this
theorem qoR {i : Nat} {a : Act} {w : World} {K : Act → World → Prop} (hno : ¬ LetsOut Q) (hd : ql4 ops) (h : wpOp P ops Q i K a w) : wpOpIn (Fence.wide.inRound l) n P ops Q i K a w := by
 unfold wpOp at h
 unfold wpOpIn
 split
 ·
  simpa [*] using h
 ·
  rename_i o ho
  simp only [ho] at h
  split
  ·
   rename_i hw
   simp only [hw, if_true] at h
   rcases h with h | ⟨_, h⟩
   ·
    exact qkV (hd i o ho) h
   ·
    exact absurd h hno
  ·
   rename_i hw
   simp only [hw] at h
   exact ⟨fun _ _ => trivial, h⟩
theorem qnv {md : Region.Mode} (hno : ¬ LetsOut Q) (hd : ql4 ops) : ∀ (fuel : Nat) (listed : Array Bool) (a : Act) (w : World), wpAny P md ops Q fuel listed a w → wpAnyIn (Fence.wide.inRound l) n P md ops Q fuel listed a w := by
 intro fuel
 induction fuel with
 | zero => exact fun _ _ _ h => h
 | succ fuel ih =>
  intro listed a w h
  exact ⟨h.1, fun i hi => qoR hno hd (wpOp_mono (fun a w => ih _ a w) (h.2 i hi))⟩
theorem qhk (hno : ¬ LetsOut Q) : ∀ (l1 : List Oper) (a : Act) (w : World), (∀ o ∈ l1, ∀ c, o.op ≠ .defer c) → wpList P ops Q l1 a w → wpListIn (Fence.wide.inRound l) n P ops Q l1 a w
 | [], _, _, _, h => h
 | o :: rest, a, w, hd, h => by
  unfold wpList at h
  unfold wpListIn
  split
  ·
   rename_i hw
   simp only [hw, if_true] at h
   rcases h with h | ⟨_, h⟩
   ·
    exact Oper.wpIn_mono (fun a w hh => qhk hno rest a w (fun o ho => hd o (List.mem_cons_of_mem _ ho)) hh) (qkV (hd o List.mem_cons_self) h)
   ·
    exact absurd h hno
  ·
   rename_i hw
   rw [if_neg hw] at h
   exact ⟨fun _ _ => trivial, qhk hno rest _ w (fun o ho => hd o (List.mem_cons_of_mem _ ho)) h⟩
theorem qhb {id : Nat} {a : Act} {w : World} (hm : P.follows .mixedOrders = true) (hno : ¬ LetsOut Q) (hd : ops.all (fun o => match o.op with | .defer _ => false | _ => true) = true)
  (h : wpAny P .any ops Q ops.size (Array.replicate ops.size false) a { w with drawn := w.drawn + 1 }) : (Code.region id ops true).wpIn (Fence.wide.inRound l) n P Q a w :=
 wpIn_region_any hm (qnv hno (qo9 hd) _ _ _ _ h)
theorem qmN {id : Nat} {l1 : List Oper} {a : Act} {w : World} (hno : ¬ LetsOut Q) (hd : l1.all (fun o => match o.op with | .defer _ => false | _ => true) = true) (h : wpList P l1.toArray Q l1 a w) : (Code.region id l1.toArray false).wpIn (Fence.wide.inRound l) n P Q a w :=
 wpIn_region_lit (qhk hno l1 a w (fun o ho c hc => by have := List.all_eq_true.1 hd o ho; rw [hc] at this; cases this) h)
end
structure qco (B : Nat) (W W' : World) : Prop where
 size : W.heap.size ≤ W'.heap.size
 same : ∀ (b : Nat) (cs : Array Value) (t : Nat), B ≤ b → t ≠ 25 → W.heap[b]? = some (.cells cs t (0, 0)) → W'.heap[b]? = some (.cells cs t (0, 0))
namespace qco
variable {B : Nat} {W W1 W2 : World}
theorem refl (B : Nat) (W : World) : qco B W W := ⟨Nat.le_refl _, fun _ _ _ _ _ h => h⟩
theorem trans (h : qco B W W1) (k : qco B W1 W2) : qco B W W2 := ⟨Nat.le_trans h.size k.size, fun b cs t hb ht hk => k.same b cs t hb ht (h.same b cs t hb ht hk)⟩
theorem of_grown (h : W.grownBy W1 none) : qco B W W1 := ⟨h.size, fun b cs t _ _ hk => (h.block b (Array.getElem?_eq_some_iff.1 hk).1 (by simp)).trans hk⟩
theorem put (l : Nat) (o o' : Obj) (hl : W.heap[l]? = some o) (ho : o.isCells = false) : qco B W (W.putObj l o') :=
 ⟨by simp, fun b cs t _ _ hk => by
  by_cases e : b = l
  ·
   subst e; rw [hl] at hk; cases hk; cases ho
  ·
   exact (World.putObj_heap_other e).trans hk⟩
end qco
theorem qj0 {W W1 : World} {B : Nat} {v : Value} {xs : List Int} {ok : Nat → Prop} (h : Kd.R (Kd.int .i64) 3 W B ok v xs) (k : qco B W W1) : Kd.R (Kd.int .i64) 3 W1 B ok v xs :=
 Kd.R_mono (Kd.R_move (Kd.R_bound h) (fun b hb => by
  obtain ⟨_, h1, h2, q, hq, cs, hc⟩ := hb
  have hq3 : q = 3 := by simpa [Kd.int, Kd.scalar] using hq
  subst hq3
  rw [hc]
  exact k.same b cs 3 h1 (by decide) hc)) (fun _ hb => hb.1)
def qjS (n : Nat) (P : Program) (g : Nat) (lb : Array Value) (B : Nat) (xs : List (List Int)) (w : World) : Prop :=
 ∀ (l : Nat) (J : List (List Int) → World → Prop) (W : World), Below w.heap.size w W →
  (∀ W1 W2 row, J [] W1 → W1.grownBy W2 row → (∀ r, row = some r → W.heap.size ≤ r) → J [] W2) →
  (∀ pre W1 W2, J pre W1 → W1.grownBy W2 none → J pre W2) →
  (∀ pre v x W1, J pre W1 → pre ++ [x] <+: xs → Kd.R (Kd.int .i64) 3 W1 B (fun _ => True) v x → YieldAt Fence.wide (n - 1) P l #[v] W1 fun e W' => e = .returned (.bool true) ∧ J (pre ++ [x]) W' ∧ qco B W1 W') →
  J [] W → CallsIn Fence.wide n P g (#[.func (.yield l) #[] #[]] ++ lb) W fun e W' => (∃ v, e = .returned v) ∧ J xs W'
def qnf (B Bl : Nat) (I : List (List Int) → World → Prop) (xs : List (List Int)) (W : World) : Exit → Act → World → Prop
 | .normal, _, W' => KeepsFrom Bl W W' ∧ qco B W W' ∧ I xs W'
 | _, _, _ => False
theorem qlZ {n : Nat} {P : Program} {g : Operand} {p : Tmp} {assign body : Code} {Q : Exit → Act → World → Prop} {a : Act} {w : World}
  {gf : Nat} {lb : Array Value} (hg : a.eval g = .func (.func gf) #[] lb) (eg : ∀ args w, (callFunc gf args).run P w = .ok (.enter gf args) w)
  {B : Nat} {xs : List (List Int)} {w0 : World} (hseq : qjS (n - 1) P gf lb B xs w0) (hb0 : Below w0.heap.size w0 w)
  (I : List (List Int) → World → Prop) (hI : OwnFrom w.heap.size I) (hI0 : ∀ W1 W2 row, I [] W1 → W1.grownBy W2 row → (∀ r, row = some r → w.heap.size ≤ r) → I [] W2) (h0 : I [] w) (a₁ : Value → Act)
  (hassign : ∀ (l : Nat) (v : Value) (W : World) (K : Act → World → Prop), K (a₁ v) W →
   assign.wpIn (Fence.wide.inRound l) (n - 1 - 1) P (Exit.then K (fun _ _ _ => False)) { tmps := (#[p].zip #[v]).foldl (fun t (p, v) => t.setIfInBounds p v) a.tmps, defers := [] } W)
  (hbody : ∀ (l : Nat) (pre : List (List Int)) (v : Value) (x : List Int) (W : World), I pre W → pre ++ [x] <+: xs → Kd.R (Kd.int .i64) 3 W B (fun _ => True) v x → body.wpIn (Fence.wide.inRound l) (n - 1 - 1) P (qnf B w.heap.size I (pre ++ [x]) W) (a₁ v) W)
  (hdone : ∀ (D : Nat) (W : World), w.heap.size ≤ D → I xs W → W.heap[D]? = some (.deferred (some [])) → Q .normal { a with defers := { target := .collected D, args := #[] } :: a.defers } W) :
  (Code.rangeFunc g #[p] assign body).wpIn Fence.wide n P Q a w := by
 refine wpIn_rangeFunc ?_
 intro fn hfn
 rw [show Fence.wide.round = none from rfl]
 obtain ⟨rec, hrec⟩ : ∃ rec : LoopState → Option Code → Loop, rec = fun st pe => { state := st, pending := pe, fn, tmps := a.tmps, params := #[p], assign, body, defers := w.heap.size } := ⟨_, rfl⟩
 obtain ⟨W1, hW1⟩ : ∃ W1, (w.alloc (.deferred (some []))).alloc (.loop (rec .ready none)) = W1 := ⟨_, rfl⟩
 have hL1 : W1.heap[w.heap.size + 1]? = some (.loop (rec .ready none)) := by
  rw [← hW1]; have := World.alloc_heap_new (w.alloc (.deferred (some []))) (.loop (rec .ready none)); rwa [World.size_alloc] at this
 have hK1 : W1.heap[w.heap.size]? = some (.deferred (some [])) := by
  rw [← hW1]; exact (Below.heap_alloc _ _ _ (by simp)).trans (World.alloc_heap_new w _)
 have hs1 : W1.heap.size = w.heap.size + 2 := by rw [← hW1]; simp
 have hI1 : I [] W1 := by rw [← hW1]; exact hI.alloc _ (hI.alloc _ h0)
 have hb1 : Below w0.heap.size w0 W1 := by
  rw [← hW1]; exact hb0.trans ((((Below.refl _ w).alloc (Nat.le_refl _) _).alloc (by simp) _).mono hb0.size)
 refine ⟨w.heap.size + 1, [{ target := .collected w.heap.size, args := #[] }], W1, { target := .fn (.func gf) lb, args := #[.func (.yield (w.heap.size + 1)) #[] #[]] }, W1, gf,
  #[.func (.yield (w.heap.size + 1)) #[] #[]] ++ lb, W1, ?_, ?_, ?_, ?_, fun e => by simp [Fence.wide] at e, ?_⟩
 ·
  rw [← hW1, hrec]; exact run_enterLoop_outer _ _ _ _ _
 ·
  simp only [resolve, hg]
  simp [go_sem]
 ·
  intro f' hf'; trivial
 ·
  simp [invoke, go_sem, eg]
 ·
  refine (hseq (w.heap.size + 1)
   (fun pre W => I pre W ∧ W.heap[w.heap.size + 1]? = some (.loop (rec .ready none)) ∧ W.heap[w.heap.size]? = some (.deferred (some [])))
   W1 hb1
   (fun A C row hs hg' hr => ?_) (fun pre A C hs hg' => ?_) ?_ ⟨hI1, hL1, hK1⟩).mono ?_
  ·
   have k1 : ∀ k o, k < w.heap.size + 2 → A.heap[k]? = some o → C.heap[k]? = some o := fun k o hk ho =>
    (hg'.block k (Array.getElem?_eq_some_iff.1 ho).1 (fun e => by have := hr k e.symm; omega)).trans ho
   exact ⟨hI0 A C row hs.1 hg' (fun r e => by have := hr r e; omega), k1 _ _ (by omega) hs.2.1, k1 _ _ (by omega) hs.2.2⟩
  ·
   have k1 : ∀ k o, A.heap[k]? = some o → C.heap[k]? = some o := fun k o ho => (hg'.block k (Array.getElem?_eq_some_iff.1 ho).1 (by simp)).trans ho
   exact ⟨hI pre A C none hs.1 hg' (fun r e => by cases e), k1 _ _ hs.2.1, k1 _ _ hs.2.2⟩
  ·
   rintro pre v x W ⟨hi, hl, hk⟩ hpre hrow
   have hlt : w.heap.size + 1 < W.heap.size := (Array.getElem?_eq_some_iff.1 hl).1
   have hy := run_yield (P := P) (args := #[v]) hl (by rw [hrec]; rfl)
   rw [hrec] at hy
   refine ⟨fn, _, assign, body, hy, roundIn_of_wpIn hfn (hassign _ v W _ ⟨_, run_beginRound hl (by rw [hrec]), ?_⟩)⟩
   have hl2 : (W.putObj (w.heap.size + 1) (.loop { rec .ready none with state := .busy })).heap[w.heap.size + 1]? = some (.loop { rec .ready none with state := .busy }) := World.putObj_heap_same hlt
   have hk2 : (W.putObj (w.heap.size + 1) (.loop { rec .ready none with state := .busy })).heap[w.heap.size]? = some (.deferred (some [])) := (World.putObj_heap_other (by omega)).trans hk
   have hw2 : qco B W (W.putObj (w.heap.size + 1) (.loop { rec .ready none with state := .busy })) := .put _ _ _ hl rfl
   refine wpIn_mono (hbody _ pre v x _ (hI.putObj _ hi (by omega) hl rfl) hpre (qj0 hrow hw2)) ?_
   rintro e a3 W3 hp
   cases e with
   | normal =>
    obtain ⟨hk3, hkp3, hi3⟩ := hp; have hl3 := hk3.same _ _ (by omega) hl2 rfl; have hr := run_endRound (P := P) none hl3; rw [hrec] at hr; refine ⟨_, _, hr, ?_⟩; rw [hrec] at hl3; refine ⟨rfl, ⟨hI.putObj _ hi3 (by omega) hl3 rfl, ?_, (World.putObj_heap_other (by omega)).trans (hk3.same _ _ (Nat.le_refl _) hk2 rfl)⟩, (hw2.trans hkp3).trans (.put _ _ _ hl3 rfl)⟩; rw [hrec]
    exact World.putObj_heap_same (Array.getElem?_eq_some_iff.1 hl3).1
   | ret => exact hp.elim
   | exit id => exact hp.elim
   | goto t => exact hp.elim
   | panic ch => exact hp.elim
   | outgrown => exact hp.elim
  ·
   rintro e W2 ⟨⟨v, rfl⟩, hi, hl, hk⟩
   exact ⟨none, _, by have := run_endLoop (P := P) hl (by rw [hrec]; simp); rw [hrec] at this; exact this, hdone _ _ (Nat.le_refl _) (hI.putObj _ hi (by omega) hl rfl) ((World.putObj_heap_other (by omega)).trans hk)⟩
end Go.Proofs.Ytmhomdohhihlcaa.P
namespace Go.Proofs.Ytmhomdohhihlcaa.P
open Go.RowKit Go.Shelf Go.Proofs.YtmhomdohhihlcaaW.PrintWords Go.Proofs.YtmhomdohhihlcaaW.PrintLast Go.Proofs.YtmhomdohhihlcaaW.PrintMore
attribute [local go_sem] Oper.semAt_some
attribute [-go_sem] Builtin.append_
def qfI : Nat → Int → List Int → List (List Int)
 | 0, left, b => [b ++ [left]]
 | m + 1, left, b => (List.range (left.toNat + 1)).flatMap fun (n : Nat) => qfI m (left - (n : Int)) (b ++ [(n : Int)])
theorem qkO {W : World} {B c : Nat} {A : Option Addr} {mix : List Int} (h : Kd.R (Kd.int .i64) 3 W B (fun _ => True) (.slice A mix.length c) mix) (hB : B ≤ W.heap.size) (hl : mix.length ≤ 10) (x : Int) :
  ∃ v' w', (Builtin.append_ #[37, 37] 37 #[.slice A mix.length mix.length, .slice (some ⟨W.heap.size, 0, none⟩) 1 1]).run Try.prog (W.alloc (.cells #[.int .i64 x] 3)) = .ok v' w' ∧
   Kd.R (Kd.int .i64) 3 w' B (fun _ => True) v' (mix ++ [x]) ∧ W.grownBy w' none := by
 have hC := (Kd.R_reads' h).2.2
 have hinf : (Try.prog.info? 3).map (fun i => (i.zero, i.size, i.bytes)) = some (some (.int .i64 0), 1, 8) := by kernel_rfl
 obtain ⟨i0, hi, hz0, hz1, hz2⟩ := info_parts hinf
 have hb1 : Below W.heap.size W (W.alloc (.cells #[.int .i64 x] 3)) := (Below.refl _ W).alloc (Nat.le_refl _) _
 have hnews : ∀ j u, [Value.int .i64 x][j]? = some u → (W.alloc (.cells #[.int .i64 x] 3)).cell? (Addr.add ⟨W.heap.size, 0, none⟩ j) = some u := by
  intro j u hj
  have hj0 : j = 0 := by
   have := (List.getElem?_eq_some_iff.1 hj).1
   simpa using this
  subst hj0
  rw [show Addr.add ⟨W.heap.size, 0, none⟩ 0 = (⟨W.heap.size, 0, none⟩ : Addr) by simp [Addr.add]]
  rw [← hj]
  exact (qai (World.alloc_heap_new W _) 0).trans rfl
 have fin : ∀ (v' : Value) (w' : World) (b0 : Nat), B ≤ b0 → w'.ownsRow b0 3 1 v' (mix.length + 1) (mix.map (Value.int .i64) ++ [.int .i64 x]) → (W.alloc (.cells #[.int .i64 x] 3)).grownBy w' none → Kd.R (Kd.int .i64) 3 w' B (fun _ => True) v' (mix ++ [x]) ∧ W.grownBy w' none := by
  intro v' w' b0 hb0 ho hg
  refine ⟨Kd.R_of_own (qjC ?_ hb0) (fun _ _ => trivial), (World.grownBy_alloc W _ none).trans hg⟩
  have e1 : (mix ++ [x]).length = mix.length + 1 := by simp
  have e2 : encs (Value.int .i64) (mix ++ [x]) = mix.map (Value.int .i64) ++ [.int .i64 x] := by simp [encs]
  rw [e1, e2]
  exact ho
 cases A with
 | none =>
  have hm : mix = [] := by
   by_cases hz : 0 < mix.length
   ·
    obtain ⟨ad, e, _⟩ := qiJ (W := W) hC (Below.refl _ _) (by simpa using hz); cases e
   ·
    exact List.eq_nil_of_length_eq_zero (by omega)
  subst hm
  obtain ⟨v', w', hrun, r1, r2, _⟩ := run_append_own (P := Try.prog) (W.alloc (.cells #[.int .i64 x] 3)) (W.alloc (.cells #[.int .i64 x] 3)).heap.size 37 37 3 i0 (.int .i64 0) 1 8 Try.underlying37 hi hz0 hz1 hz2 rfl (by decide) (.slice none 0 0) 0 [] (World.ownsRow_nil _ _ 3 1) ⟨W.heap.size, 0, none⟩ 1 1 [.int .i64 x] rfl hnews (by simp [Value.oneCell']) (by decide) (by decide) (Nat.le_refl _)
  have := fin v' w' (W.alloc (.cells #[.int .i64 x] 3)).heap.size (by simp; omega) (by simpa using r1) (by simpa [Value.ownBlock] using r2)
  exact ⟨v', w', hrun, this⟩
 | some ad =>
  obtain ⟨v', w', hrun, r1, r2⟩ := run_append_arg_grows (P := Try.prog) (W.alloc (.cells #[.int .i64 x] 3)) 37 37 3 i0 (.int .i64 0) 1 8 Try.underlying37 hi hz0 hz1 hz2 rfl (by decide) ad mix.length mix.length (mix.map (Value.int .i64)) (by simp) (fun j u hj => by
   obtain ⟨ad', e, hc⟩ := qiJ (w := W) (W := W.alloc (.cells #[.int .i64 x] 3)) hC hb1 (by have := (List.getElem?_eq_some_iff.1 hj).1; omega)
   cases e
   exact hc j u hj) ⟨W.heap.size, 0, none⟩ 1 1 [.int .i64 x] rfl hnews (by omega) (by simp only [maxLen]; omega) (by omega)
  exact ⟨v', w', hrun, fin v' w' (W.alloc (.cells #[.int .i64 x] 3)).heap.size (by simp; omega) r1 r2⟩
theorem qnT {α : Type} (f : Nat → List α) (k N : Nat) (h : k < N) : (List.range k).flatMap f ++ f k <+: (List.range N).flatMap f := by
 obtain ⟨d, rfl⟩ : ∃ d, N = (k + 1) + d := ⟨N - (k + 1), by omega⟩
 rw [List.range_add, List.flatMap_append, List.range_succ, List.flatMap_append, List.flatMap_singleton]
 exact List.prefix_append _ _
theorem qhS {W W1 : World} {r : Option Nat} (h : W.drew.grownBy W1 r) : W.grownBy W1 r := ⟨h.1, h.2, h.3, h.size, fun k hk hr => h.block k hk hr⟩
theorem qnQ {n m : Nat} {P : Program} {l : Nat} {f : FuncId} {tmps : Array Value} {assign body : Code} {w : World} {R : Ending → World → Prop} (h : RoundIn Fence.wide n P l f tmps assign body w R) : RoundIn Fence.wide m P l f tmps assign body w R :=
 ⟨h.1, fun c cs _ => h.2 c cs (room_wide _)⟩
theorem qkJ {n m : Nat} {P : Program} {l : Nat} {args : Array Value} {w : World} {R : Ending → World → Prop} (h : YieldAt Fence.wide n P l args w R) : YieldAt Fence.wide m P l args w R := by
 obtain ⟨fn, tmps, assign, body, hy, hR⟩ := h
 exact ⟨fn, tmps, assign, body, hy, qnQ hR⟩
structure qfP (l : Nat) (R : Int) (rb yb fb B : Nat) (W : World) : Prop where
 r : W.heap[rb]? = some (.cells #[.int .i64 R] 3 (0, 0))
 y : W.heap[yb]? = some (.cells #[.func (.yield l) #[] #[]] 147 (0, 0))
 f : W.heap[fb]? = some (.cells #[.func (.func 96) #[] #[.pointer (some ⟨rb, 0, none⟩), .pointer (some ⟨yb, 0, none⟩), .pointer (some ⟨fb, 0, none⟩)]] 87 (0, 0))
 br : B ≤ rb
 by_ : B ≤ yb
 bf : B ≤ fb
theorem qfP.keeps {l rb yb fb B : Nat} {R : Int} {W W1 : World} (h : qfP l R rb yb fb B W) (k : qco B W W1) : qfP l R rb yb fb B W1 :=
 ⟨k.same _ _ _ h.br (by decide) h.r, k.same _ _ _ h.by_ (by decide) h.y, k.same _ _ _ h.bf (by decide) h.f, h.br, h.by_, h.bf⟩
theorem qkM {n m : Nat} {P : Program} {f : FuncId} {args : Array Value} {w : World} {R : Ending → World → Prop} (h : CallsIn Fence.wide n P f args w R) : CallsIn Fence.wide m P f args w R := callsIn_wide.2 (callsIn_wide.1 h)
set_option maxHeartbeats 4000000 in
set_option maxRecDepth 100000 in
theorem qrl (n l : Nat) (R : Nat) (rb yb fb B : Nat) (xs : List (List Int)) (J : List (List Int) → World → Prop)
  (hJ : ∀ pre W1 W2, J pre W1 → W1.grownBy W2 none → J pre W2)
  (hY : ∀ pre v x W1, J pre W1 → pre ++ [x] <+: xs → Kd.R (Kd.int .i64) 3 W1 B (fun _ => True) v x → YieldAt Fence.wide n Try.prog l #[v] W1 fun e W' => e = .returned (.bool true) ∧ J (pre ++ [x]) W' ∧ qco B W1 W') :
  ∀ (m : Nat) (left : Int) (mix : List Int) (v : Value) (pre : List (List Int)) (W : World), 0 ≤ left → left ≤ 100 → mix.length + m + 1 = R → R ≤ 3 → B ≤ W.heap.size → Kd.R (Kd.int .i64) 3 W B (fun _ => True) v mix → qfP l R rb yb fb B W →
   J pre W → pre ++ qfI m left mix <+: xs →
   CallsIn Fence.wide n Try.prog 96 #[v, .int .i64 left, .pointer (some ⟨rb, 0, none⟩), .pointer (some ⟨yb, 0, none⟩), .pointer (some ⟨fb, 0, none⟩)] W fun e W' => e = .returned (.bool true) ∧ J (pre ++ qfI m left mix) W' ∧ qco B W W' := by
 have hmix : Try.prog.follows .mixedOrders = true := by kernel_rfl
 intro m
 induction m with
 | zero =>
  intro left mix v pre W qtp hleft hlen hR3 hBW hrow hbox hj hpre
  obtain ⟨A, c, rfl, hc, _⟩ := Kd.R_reads hrow
  have hbr : W.cell? ⟨rb, 0, none⟩ = some (.int .i64 R) := (qai hbox.r 0).trans rfl
  have hby : W.cell? ⟨yb, 0, none⟩ = some (.func (.yield l) #[] #[]) := (qai hbox.y 0).trans rfl
  have hlr : decide ((mix.length : Int) = (R : Int) - 1) = true := decide_eq_true (by omega)
  have hrow2 : Kd.R (Kd.int .i64) 3 W.drew B (fun _ => True) (.slice A mix.length c) mix := hrow
  obtain ⟨v1, w1, hrun', hr1, hg1⟩ := qkO hrow2 hBW (by omega) left
  have hrun : (Builtin.append_ #[37, 37] 37 #[.slice A mix.length mix.length, .slice (some ⟨W.heap.size, 0, none⟩) 1 1]).run Try.prog (W.alloc (.cells #[.int .i64 left] 3)).drew = .ok v1 w1 := hrun'
  clear hrun'
  have hg0 : W.grownBy w1 none := qhS hg1
  have qlc : qfP l R rb yb fb B w1 := hbox.keeps (qco.of_grown hg0)
  have hby1 : w1.cell? ⟨yb, 0, none⟩ = some (.func (.yield l) #[] #[]) := (qai qlc.y 0).trans rfl
  have hylt : yb < W.heap.size := qaA hbox.y
  have hyne : (yb = W.heap.size) = False := eq_false (by omega)
  have qDk : (W.heap.size = yb) = False := eq_false (by omega)
  have hby2 : (W.alloc (.cells #[.int .i64 left] 3)).cell? ⟨yb, 0, none⟩ = some (.func (.yield l) #[] #[]) := (World.cell?_alloc_some _ _ _ (by rw [hby]; rfl)).trans hby
  have hcut := qhH (P := Try.prog) 37 3 Try.underlying37 rfl A mix.length c hc
  obtain ⟨fn, tmps, assign, body, hy, hRd⟩ := qkJ (m := n - 1) (hY pre v1 (mix ++ [left]) w1 (hJ _ _ _ hj hg0) hpre hr1)
  refine callsIn_of_wp Try.func96 rfl trivial ?_ rfl
  simp only [Try.ntmps96, List.size_toArray, List.length_cons, List.length_nil, Nat.reduceAdd, Nat.reduceSub, Array.replicate_succ, Array.replicate_zero, List.push_toArray, List.append_toArray, List.nil_append, List.cons_append]
  gi_wp2
  gi_region_with_o (refine ⟨fun e => by simp [Fence.wide] at e, hRd.mono ?_⟩; rintro e W' ⟨rfl, hJ', hk'⟩)
  all_goals
   gi_wp2
   go_ret
   exact ⟨rfl, hJ', (qco.of_grown hg0).trans hk'⟩
 | succ m ih =>
  intro left mix v pre W qtp hleft hlen hR3 hBW hrow hbox hj hpre
  obtain ⟨A, c, rfl, hc, _⟩ := Kd.R_reads hrow
  have hbr : W.cell? ⟨rb, 0, none⟩ = some (.int .i64 R) := (qai hbox.r 0).trans rfl
  have hlr : decide ((mix.length : Int) = (R : Int) - 1) = false := decide_eq_false (by omega)
  have hlr2 : ((mix.length : Int) == (R : Int) - 1) = false := by simpa using hlr
  have hcut := qhH (P := Try.prog) 37 3 Try.underlying37 rfl A mix.length c hc
  refine callsIn_of_wp Try.func96 rfl trivial ?_ rfl
  simp only [Try.ntmps96, List.size_toArray, List.length_cons, List.length_nil, Nat.reduceAdd, Nat.reduceSub, Array.replicate_succ, Array.replicate_zero, List.push_toArray, List.append_toArray, List.nil_append, List.cons_append]
  have hN : left.toNat + m + 1 ≤ left.toNat + m + 1 := Nat.le_refl _
  gi_wp2
  gi_loopg [27] (left.toNat + 1) (fun d v27 wr => ∃ (k : Nat), v27 = .int .i64 (k : Int) ∧ qaa (k + d = left.toNat + 1) ∧ qaa (J (pre ++ (List.range k).flatMap fun (n : Nat) => qfI m (left - (n : Int)) (mix ++ [(n : Int)])) wr) ∧ qaa (qco B W wr))
  case atStart => exact ⟨0, rfl, ⟨by omega⟩, ⟨by simpa using hj⟩, ⟨qco.refl _ _⟩⟩
  case round =>
   obtain ⟨k, rfl, HD, HJ, HK⟩ := hrel
   by_cases hk : (k : Int) < left + 1
   ·
    obtain ⟨d, rfl⟩ : ∃ d, gk = d + 1 := ⟨gk - 1, by have := HD.out; omega⟩
    have hBr : B ≤ wr.heap.size := by have := HK.out.size; omega
    have hboxr : qfP l R rb yb fb B wr := hbox.keeps HK.out; have hrowr : Kd.R (Kd.int .i64) 3 wr.drew B (fun _ => True) (.slice A mix.length c) mix := (show Kd.R (Kd.int .i64) 3 wr B (fun _ => True) (.slice A mix.length c) mix from qj0 hrow HK.out)
    have hwr : IntKind.i64.wrap (left - (k : Int)) = left - (k : Int) := by rw [qaM]; unfold wrap64; omega
    obtain ⟨v1, w1, hrun', hr1, hg1⟩ := qkO hrowr hBr (by omega) (k : Int); have hrun : (Builtin.append_ #[37, 37] 37 #[.slice A mix.length mix.length, .slice (some ⟨wr.heap.size, 0, none⟩) 1 1]).run Try.prog (wr.alloc (.cells #[.int .i64 (k : Int)] 3)).drew = .ok v1 w1 := hrun'; clear hrun'; have hg0 : wr.grownBy w1 none := qhS hg1; have qlc : qfP l R rb yb fb B w1 := hboxr.keeps (qco.of_grown hg0); have hbf : wr.cell? ⟨fb, 0, none⟩ = some (.func (.func 96) #[] #[.pointer (some ⟨rb, 0, none⟩), .pointer (some ⟨yb, 0, none⟩), .pointer (some ⟨fb, 0, none⟩)]) := (qai hboxr.f 0).trans rfl; have hbf1 : w1.cell? ⟨fb, 0, none⟩ = some (.func (.func 96) #[] #[.pointer (some ⟨rb, 0, none⟩), .pointer (some ⟨yb, 0, none⟩), .pointer (some ⟨fb, 0, none⟩)]) := (qai qlc.f 0).trans rfl; have hbf2 : (wr.alloc (.cells #[.int .i64 (k : Int)] 3)).cell? ⟨fb, 0, none⟩ = some (.func (.func 96) #[] #[.pointer (some ⟨rb, 0, none⟩), .pointer (some ⟨yb, 0, none⟩), .pointer (some ⟨fb, 0, none⟩)]) := (World.cell?_alloc_some _ _ _ (by rw [hbf]; rfl)).trans hbf; have hJ1 := hJ _ _ _ HJ.out hg0; have hB1 : B ≤ w1.heap.size := Nat.le_trans hBr hg0.size
    have qpg : (pre ++ (List.range k).flatMap fun (n : Nat) => qfI m (left - (n : Int)) (mix ++ [(n : Int)])) ++ qfI m (left - (k : Int)) (mix ++ [(k : Int)]) <+: xs := by
     refine List.IsPrefix.trans ?_ hpre; rw [List.append_assoc]
     exact (List.prefix_append_right_inj pre).2 (qnT (fun (n : Nat) => qfI m (left - (n : Int)) (mix ++ [(n : Int)])) k (left.toNat + 1) (by omega))
    have hcall := qkM (m := n - 1) (ih (left - (k : Int)) (mix ++ [(k : Int)]) v1 _ w1 (by omega) (by omega) (by simp; omega) hR3 hB1 hr1 qlc hJ1 qpg); have HG := qaa.mk hg0; have HP := qaa.mk qpg; clear hJ1 qpg hg0 hg1 hr1 qlc hboxr hrowr hB1 hBr
    gi_wp2
    gi_region_with_o (refine ⟨trivial, fun e => by simp [Fence.wide] at e, hcall.mono ?_⟩; rintro e W' ⟨rfl, hJ', hk'⟩)
    all_goals
     gi_wp2
     gi_roundg d
     case measure => omega
     case rel => exact ⟨k + 1, rfl, ⟨by have := HD.out; omega⟩, ⟨by rw [List.range_succ, List.flatMap_append, List.flatMap_singleton, ← List.append_assoc]; exact hJ'⟩, ⟨(HK.out.trans (qco.of_grown HG.out)).trans hk'⟩⟩
   ·
    gi_wp2
    go_ret
    have hkk : k = left.toNat + 1 := by have := HD.out; omega
    subst hkk
    exact ⟨rfl, HJ.out, HK.out⟩
end Go.Proofs.Ytmhomdohhihlcaa.P
namespace Go.Proofs.Ytmhomdohhihlcaa.P
open Go.RowKit Go.Proofs.YtmhomdohhihlcaaW.PrintWords Go.Proofs.YtmhomdohhihlcaaW.PrintLast Go.Proofs.YtmhomdohhihlcaaW.PrintMore
structure qpw (p : Prop) : Prop where
 out : p
theorem qtb (op : BinOp) (k : IntKind) (x y : Int) : (Lit.int k (Go.bits op k x y)).wf = true := by
 exact wf_bits op k x y
structure BSt where
 ch : List Int
 sp : Int
 lo : Int
def qaI.upd (cells : List S136) (so : List Int) (x : Int) (st : BSt) : BSt :=
 if st.sp < (qa6.s cells x).1 ∨ ((qa6.s cells x).1 = st.sp ∧ (qa6.s cells x).2 < st.lo) then ⟨so, (qa6.s cells x).1, (qa6.s cells x).2⟩ else st
def qaI.lp (cells : List S136) (sets : List Int) (many : Int) : Nat → List Int → Int → BSt → BSt
  | 0, _, _, st => st
  | d + 1, so, x, st => qaI.lp cells sets many d so x
      (if (((so.length + 1 : Nat) : Int)) = many then qaI.upd cells (so ++ [((sets.length - (d + 1) : Nat) : Int)]) (Go.bits .or .i64 x (rd sets ((sets.length - (d + 1) : Nat) : Int))) st
       else qaI.lp cells sets many d (so ++ [((sets.length - (d + 1) : Nat) : Int)]) (Go.bits .or .i64 x (rd sets ((sets.length - (d + 1) : Nat) : Int))) st)
def qaI.cz (cells : List S136) (sets : List Int) (many : Int) (d : Nat) (so : List Int) (x : Int) (st : BSt) : BSt :=
 if (so.length : Int) = many then qaI.upd cells so x st else qaI.lp cells sets many d so x st
def BxS (sb lb cb bm : Nat) (k : Nat) : Prop := k = sb ∨ k = lb ∨ k = cb ∨ k = bm
structure BxI (N0 seb sb lb cb tb fb bm : Nat) (A : Option Addr) (c : Nat) (cells : List S136) (At : Option Addr) (ct : Nat) (sets : List Int) (W : World) (st : BSt) : Prop where
 sea : W.heap[seb]? = some (.cells #[.slice A cells.length c, .map (some bm)] 142 (0, 0))
 spb : W.heap[sb]? = some (.cells #[.int .i64 st.sp] 3 (0, 0))
 lob : W.heap[lb]? = some (.cells #[.int .i64 st.lo] 3 (0, 0))
 chb : ∃ v, W.heap[cb]? = some (.cells #[v] 37 (0, 0)) ∧ Kd.R (Kd.int .i64) 3 W N0 (fun k => ¬ BxS sb lb cb bm k) v st.ch
 tbx : W.heap[tb]? = some (.cells #[.slice At sets.length ct] 137 (0, 0))
 fbx : W.heap[fb]? = some (.cells #[.func (.func 90) #[] #[.pointer (some ⟨seb, 0, none⟩), .pointer (some ⟨sb, 0, none⟩), .pointer (some ⟨lb, 0, none⟩), .pointer (some ⟨cb, 0, none⟩), .pointer (some ⟨tb, 0, none⟩), .pointer (some ⟨fb, 0, none⟩)]] 143 (0, 0))
 row : Kd.R (Kd.int .i64) 139 W N0 (fun k => ¬ BxS sb lb cb bm k) (.slice At sets.length ct) sets
 map : MapI W bm cells
 cel : Kd.C k136 W A cells.length cells
 hc : cells.length ≤ c
 n1 : seb ≠ sb ∧ seb ≠ lb ∧ seb ≠ cb ∧ seb ≠ bm
 n2 : tb ≠ sb ∧ tb ≠ lb ∧ tb ≠ cb ∧ tb ≠ bm
 n3 : fb ≠ sb ∧ fb ≠ lb ∧ fb ≠ cb ∧ fb ≠ bm
 n4 : sb ≠ lb ∧ sb ≠ cb ∧ sb ≠ bm ∧ lb ≠ cb ∧ lb ≠ bm ∧ cb ≠ bm
 n5 : N0 ≤ sb ∧ N0 ≤ lb ∧ N0 ≤ cb ∧ N0 ≤ bm
 cl : ∀ W', Below N0 W W' → Kd.C k136 W' A cells.length cells
section
variable {N0 seb sb lb cb tb fb bm : Nat} {A : Option Addr} {c : Nat} {cells : List S136} {At : Option Addr} {ct : Nat} {sets : List Int} {W W1 : World} {st : BSt}
theorem BxI.step (h : BxI N0 seb sb lb cb tb fb bm A c cells At ct sets W st) (hk : Kept W W1 (fun k => k = bm)) (hm : MapI W1 bm cells) (hb : Below N0 W W1) : BxI N0 seb sb lb cb tb fb bm A c cells At ct sets W1 st := by
 obtain ⟨v, h1, h2⟩ := h.chb
 exact ⟨qfh h.sea hk h.n1.2.2.2, qfh h.spb hk h.n4.2.2.1, qfh h.lob hk h.n4.2.2.2.2.1, ⟨v, qfh h1 hk h.n4.2.2.2.2.2, Kd.R_kept h2 hk (fun k hk1 e => hk1 (.inr (.inr (.inr e))))⟩, qfh h.tbx hk h.n2.2.2.2, qfh h.fbx hk h.n3.2.2.2,
  Kd.R_kept h.row hk (fun k hk1 e => hk1 (.inr (.inr (.inr e)))), hm, h.cl _ hb, h.hc, h.n1, h.n2, h.n3, h.n4, h.n5, fun W' hb' => h.cl _ (hb.trans hb')⟩
theorem BxI.below (h : BxI N0 seb sb lb cb tb fb bm A c cells At ct sets W st) (hb : Below W.heap.size W W1) (hN : N0 ≤ W.heap.size) : BxI N0 seb sb lb cb tb fb bm A c cells At ct sets W1 st :=
 h.step (Kept.of_below hb _) (h.map.keep (hb.block bm h.map.lt)) (hb.mono hN)
theorem BxI.put (h : BxI N0 seb sb lb cb tb fb bm A c cells At ct sets W st) {v : Value} {so : List Int} {s1 s2 : Int} (hv : Kd.R (Kd.int .i64) 3 W N0 (fun k => ¬ BxS sb lb cb bm k) v so) :
  BxI N0 seb sb lb cb tb fb bm A c cells At ct sets (((W.setCell ⟨cb, 0, none⟩ v).setCell ⟨sb, 0, none⟩ (.int .i64 s1)).setCell ⟨lb, 0, none⟩ (.int .i64 s2)) ⟨so, s1, s2⟩ ∧
   Kept W (((W.setCell ⟨cb, 0, none⟩ v).setCell ⟨sb, 0, none⟩ (.int .i64 s1)).setCell ⟨lb, 0, none⟩ (.int .i64 s2)) (BxS sb lb cb bm) ∧
   Below N0 W (((W.setCell ⟨cb, 0, none⟩ v).setCell ⟨sb, 0, none⟩ (.int .i64 s1)).setCell ⟨lb, 0, none⟩ (.int .i64 s2)) := by
 obtain ⟨v0, h1, h2⟩ := h.chb
 obtain ⟨a1, a2, a3, a4, a5, a6⟩ := h.n4
 have hK : Kept W (((W.setCell ⟨cb, 0, none⟩ v).setCell ⟨sb, 0, none⟩ (.int .i64 s1)).setCell ⟨lb, 0, none⟩ (.int .i64 s2)) (BxS sb lb cb bm) :=
  (((Kept.refl W _).setCell (p := ⟨cb, 0, none⟩) (.inl (.inr (.inr (.inl rfl)))) _).setCell (p := ⟨sb, 0, none⟩) (.inl (.inl rfl)) _).setCell (p := ⟨lb, 0, none⟩) (.inl (.inr (.inl rfl))) _
 have hB : Below N0 W (((W.setCell ⟨cb, 0, none⟩ v).setCell ⟨sb, 0, none⟩ (.int .i64 s1)).setCell ⟨lb, 0, none⟩ (.int .i64 s2)) :=
  (((Below.refl N0 W).setCell (p := ⟨cb, 0, none⟩) h.n5.2.2.1 _).setCell (p := ⟨sb, 0, none⟩) h.n5.1 _).setCell (p := ⟨lb, 0, none⟩) h.n5.2.1 _
 have nS : ∀ {k : Nat}, k ≠ sb → k ≠ lb → k ≠ cb → k ≠ bm → ¬ BxS sb lb cb bm k := fun h1 h2 h3 h4 e => by
  rcases e with e | e | e | e
  ·
   exact h1 e
  ·
   exact h2 e
  ·
   exact h3 e
  ·
   exact h4 e
 refine ⟨⟨qfh h.sea hK (nS h.n1.1 h.n1.2.1 h.n1.2.2.1 h.n1.2.2.2), ?_, ?_, ⟨v, ?_, Kd.R_kept hv hK (fun k hk => hk)⟩, qfh h.tbx hK (nS h.n2.1 h.n2.2.1 h.n2.2.2.1 h.n2.2.2.2), qfh h.fbx hK (nS h.n3.1 h.n3.2.1 h.n3.2.2.1 h.n3.2.2.2), Kd.R_kept h.row hK (fun k hk => hk),
  h.map.keep ?_, h.cl _ hB, h.hc, h.n1, h.n2, h.n3, h.n4, h.n5, fun W' hb' => h.cl _ (hB.trans hb')⟩, hK, hB⟩
 ·
  exact qao (qaw (qao h.spb (p := ⟨cb, 0, none⟩) a2 _) 0 _ rfl) (p := ⟨lb, 0, none⟩) a1 _
 ·
  exact qaw (qao (qao h.lob (p := ⟨cb, 0, none⟩) a4 _) (p := ⟨sb, 0, none⟩) (Ne.symm a1) _) 0 _ rfl
 ·
  exact qao (qao (qaw h1 0 _ rfl) (p := ⟨sb, 0, none⟩) (Ne.symm a2) _) (p := ⟨lb, 0, none⟩) (Ne.symm a4) _
 ·
  exact ((Below.heap_setCell _ _ _ bm (Ne.symm a5)).trans (Below.heap_setCell _ _ _ bm (Ne.symm a3))).trans (Below.heap_setCell _ _ _ bm (Ne.symm a6))
set_option maxHeartbeats 4000000 in
set_option maxRecDepth 100000 in
theorem qfS.leaf (v : Value) (so : List Int) (x : Int) (hI : BxI N0 seb sb lb cb tb fb bm A c cells At ct sets W st) (hN : N0 ≤ W.heap.size) (hv : Kd.R (Kd.int .i64) 3 W N0 (fun k => ¬ BxS sb lb cb bm k) v so) (hx : (Lit.int .i64 x).wf = true) :
  Calls Try.prog 90 #[v, .agg #[.int .i64 x], .int .i64 (so.length : Int), .pointer (some ⟨seb, 0, none⟩), .pointer (some ⟨sb, 0, none⟩), .pointer (some ⟨lb, 0, none⟩), .pointer (some ⟨cb, 0, none⟩), .pointer (some ⟨tb, 0, none⟩), .pointer (some ⟨fb, 0, none⟩)] W
   fun e w' => (∃ u, e = .returned u) ∧ BxI N0 seb sb lb cb tb fb bm A c cells At ct sets w' (qaI.upd cells so x st) ∧ Kept W w' (BxS sb lb cb bm) ∧ Below N0 W w' := by
 obtain ⟨Av, cv, rfl, hcv, hCv⟩ := Kd.R_reads hv
 have qqB := Try.underlying142
 have qqC := Try.underlying139
 have qpe := Try.underlying136
 have hbl := qaf (Below.refl W.heap.size W) (.cells #[.int .i64 x] 139)
 have hIa := hI.below hbl hN
 have hs0 : (W.alloc (.cells #[.int .i64 x] 139)).cell? ⟨seb, 0, none⟩ = some (.slice A cells.length c) := (qai hIa.sea 0).trans rfl
 have hs1 : (W.alloc (.cells #[.int .i64 x] 139)).cell? ⟨seb, 1, none⟩ = some (.map (some bm)) := (qai hIa.sea 1).trans rfl
 have hmx : so.length ≤ 9223372036854775807 := hCv.2.1
 have HI := qaa.mk hI
 have HIa := qaa.mk hIa
 have HV := qaa.mk hv
 have HBL := qaa.mk hbl
 obtain ⟨s1, hs1e⟩ : ∃ s1, (qa6.s cells x).1 = s1 := ⟨_, rfl⟩
 obtain ⟨s2, hs2e⟩ : ∃ s2, (qa6.s cells x).2 = s2 := ⟨_, rfl⟩
 obtain ⟨st2, hst2⟩ : ∃ st2, qaI.upd cells so x st = st2 := ⟨_, rfl⟩
 rw [hst2]
 have hupd : (if st.sp < s1 ∨ (s1 = st.sp ∧ s2 < st.lo) then ⟨so, s1, s2⟩ else st) = st2 := by rw [← hst2, ← hs1e, ← hs2e]; rfl
 have HS1 := qaa.mk hs1e
 have HS2 := qaa.mk hs2e
 have HU := qaa.mk hupd
 clear hI hIa hv hbl hCv hs1e hs2e hupd hst2
 go_enter Try.func90, Try.ntmps90
 go_wp2_with (go_at_call 91; refine qpw.out ?_)
 refine qpw.mk ?_
 refine (qkR.calls A cells.length c bm cells x _ HIa.out.cel HIa.out.hc hx HIa.out.map).mono ?_
 rintro e w2 ⟨rfl, hm2, hk2, hb2⟩
 have hb2' := hb2.mono HIa.out.n5.2.2.2
 have hI2 := HIa.out.step hk2 hm2 hb2'
 rw [HS1.out, HS2.out]
 clear hs0 hs1
 have hb3 := qaf (Below.refl w2.heap.size w2) (.cells #[.int .i64 s1, .int .i64 s2] 136)
 have hN2 : N0 ≤ w2.heap.size := by have := HIa.out.n5.2.2.2; have := hm2.lt; omega
 have hI3 := hI2.below hb3 hN2
 have hK3 : Kept W (w2.alloc (.cells #[.int .i64 s1, .int .i64 s2] 136)) (BxS sb lb cb bm) := ((Kept.of_below HBL.out _).then_ (hk2.mono (fun k hk => .inr (.inr (.inr hk)))) (fun k hk => .inl hk)).alloc _
 have hB3 : Below N0 W (w2.alloc (.cells #[.int .i64 s1, .int .i64 s2] 136)) := ((HBL.out.mono hN).trans hb2').trans (hb3.mono hN2)
 have hlt2 : W.heap.size ≤ w2.heap.size := by have := hk2.1; simp at this; omega
 have hcs2 : w2.cell? ⟨sb, 0, none⟩ = some (.int .i64 st.sp) := (qai hI2.spb 0).trans rfl
 have hcl2 : w2.cell? ⟨lb, 0, none⟩ = some (.int .i64 st.lo) := (qai hI2.lob 0).trans rfl
 have hfs2 := qaj hI2.spb 0
 have hfl2 := qaj hI2.lob 0
 have hcc2 : ∃ vc, w2.cell? ⟨cb, 0, none⟩ = some vc := by obtain ⟨v, h, _⟩ := hI2.chb; exact ⟨v, (qai h 0).trans rfl⟩
 have hfc2 : w2.frozen? ⟨cb, 0, none⟩ = false := by obtain ⟨v, h, _⟩ := hI2.chb; exact qaj h 0
 obtain ⟨vc2, hcc2⟩ := hcc2
 obtain ⟨W3, hW3⟩ : ∃ W3, w2.alloc (.cells #[.int .i64 s1, .int .i64 s2] 136) = W3 := ⟨_, rfl⟩
 have hn3 : W3.heap[w2.heap.size]? = some (.cells #[.int .i64 s1, .int .i64 s2] 136 (0, 0)) := by rw [← hW3]; exact World.alloc_heap_new w2 _
 have hV3 : Kd.R (Kd.int .i64) 3 W3 N0 (fun k => ¬ BxS sb lb cb bm k) (.slice Av so.length cv) so := by rw [← hW3]; exact Kd.R_kept HV.out hK3 (fun k hk => hk)
 rw [hW3] at hI3 hK3 hB3 hb3
 have hc0 : W3.cell? ⟨w2.heap.size, 0, none⟩ = some (.int .i64 s1) := (qai hn3 0).trans rfl
 have hc1 : W3.cell? ⟨w2.heap.size, 1, none⟩ = some (.int .i64 s2) := (qai hn3 1).trans rfl
 have hcs : W3.cell? ⟨sb, 0, none⟩ = some (.int .i64 st.sp) := (qai hI3.spb 0).trans rfl
 have hcl : W3.cell? ⟨lb, 0, none⟩ = some (.int .i64 st.lo) := (qai hI3.lob 0).trans rfl
 obtain ⟨vc, hcb, hcr⟩ := hI3.chb
 have hcc : W3.cell? ⟨cb, 0, none⟩ = some vc := (qai hcb 0).trans rfl
 have hfs := qaj hI3.spb 0
 have hfl := qaj hI3.lob 0
 have hfc := qaj hcb 0
 obtain ⟨q1, q2, q3, q4, q5, q6⟩ := hI3.n4
 have hsl : sb < w2.heap.size := qaA hI2.spb
 have hll : lb < w2.heap.size := qaA hI2.lob
 have hclt : cb < w2.heap.size := by obtain ⟨_, h, _⟩ := hI2.chb; exact qaA h
 have HI3 := qaa.mk hI3
 have HK3 := qaa.mk hK3
 have HB3 := qaa.mk hB3
 have HV3 := qaa.mk hV3
 have HCB := qaa.mk hcb
 have hsz3 : qaa (w2.heap.size < W3.heap.size) := ⟨qaA hn3⟩
 have hupd := HU.out
 have HI2 := qaa.mk hI2
 have HK2 : qaa (Kept W w2 (BxS sb lb cb bm)) := ⟨(Kept.of_below HBL.out _).then_ (hk2.mono (fun k hk => .inr (.inr (.inr hk)))) (fun k hk => .inl hk)⟩
 have HV2 := qaa.mk (Kd.R_kept HV.out HK2.out (fun k hk => hk))
 have HB2 := qaa.mk ((HBL.out.mono hN).trans hb2')
 have HN2 := qaa.mk hN2
 clear hI3 hK3 hB3 hV3 hcb hI2 hb3 hN2 hm2 hk2 hb2 hb2' hlt2 hn3 HI HIa HV HBL hcr HS1 HS2 HU
 subst hW3
 by_cases hu : st.sp < s1 ∨ (s1 = st.sp ∧ s2 < st.lo)
 ·
  rw [if_pos hu] at hupd
  subst hupd
  have hg : (decide (st.sp < s1) = true) ∨ (decide (st.sp < s1) = false ∧ (s1 == st.sp) = true ∧ decide (s2 < st.lo) = true) := by
   by_cases h1 : st.sp < s1
   ·
    exact .inl (decide_eq_true h1)
   ·
    rcases hu with h | ⟨h2, h3⟩
    ·
     exact absurd h h1
    ·
     exact .inr ⟨decide_eq_false h1, by simpa using h2, decide_eq_true h3⟩
  rcases hg with hg1 | ⟨hg1, hg2, hg3⟩
  ·
   go_wp2
   go_region
   go_wp2
   refine bodyPost_ret (results_none rfl _ _ _) rfl ?_
   obtain ⟨g1, g2, g3⟩ := HI2.out.put (s1 := s1) (s2 := s2) HV2.out
   have hsz : (((w2.setCell ⟨cb, 0, none⟩ (.slice Av so.length cv)).setCell ⟨sb, 0, none⟩ (.int .i64 s1)).setCell ⟨lb, 0, none⟩ (.int .i64 s2)).heap.size = w2.heap.size := by simp
   have hbb := qbs (qaf (Below.refl (((w2.setCell ⟨cb, 0, none⟩ (.slice Av so.length cv)).setCell ⟨sb, 0, none⟩ (.int .i64 s1)).setCell ⟨lb, 0, none⟩ (.int .i64 s2)).heap.size (((w2.setCell ⟨cb, 0, none⟩ (.slice Av so.length cv)).setCell ⟨sb, 0, none⟩ (.int .i64 s1)).setCell ⟨lb, 0, none⟩ (.int .i64 s2))) (.cells #[.int .i64 s1, .int .i64 s2] 136))
   exact ⟨⟨_, rfl⟩, g1.below hbb (by rw [hsz]; exact HN2.out), (HK2.out.then_ g2 (fun k hk => .inl hk)).below hbb, (HB2.out.trans g3).trans (hbb.mono (by rw [hsz]; exact HN2.out))⟩
  ·
   go_wp2
   go_region
   go_wp2
   refine bodyPost_ret (results_none rfl _ _ _) rfl ?_
   obtain ⟨g1, g2, g3⟩ := HI2.out.put (s1 := s1) (s2 := s2) HV2.out
   have hsz : (((w2.setCell ⟨cb, 0, none⟩ (.slice Av so.length cv)).setCell ⟨sb, 0, none⟩ (.int .i64 s1)).setCell ⟨lb, 0, none⟩ (.int .i64 s2)).heap.size = w2.heap.size := by simp
   have hbb := qbs (qaf (Below.refl (((w2.setCell ⟨cb, 0, none⟩ (.slice Av so.length cv)).setCell ⟨sb, 0, none⟩ (.int .i64 s1)).setCell ⟨lb, 0, none⟩ (.int .i64 s2)).heap.size (((w2.setCell ⟨cb, 0, none⟩ (.slice Av so.length cv)).setCell ⟨sb, 0, none⟩ (.int .i64 s1)).setCell ⟨lb, 0, none⟩ (.int .i64 s2))) (.cells #[.int .i64 s1, .int .i64 s2] 136))
   exact ⟨⟨_, rfl⟩, g1.below hbb (by rw [hsz]; exact HN2.out), (HK2.out.then_ g2 (fun k hk => .inl hk)).below hbb, (HB2.out.trans g3).trans (hbb.mono (by rw [hsz]; exact HN2.out))⟩
 ·
  rw [if_neg hu] at hupd
  subst hupd
  have hg1 : decide (st.sp < s1) = false := decide_eq_false (fun h => hu (.inl h))
  by_cases he : s1 = st.sp
  ·
   have hg2 : (s1 == st.sp) = true := by simpa using he
   have hg3 : decide (s2 < st.lo) = false := decide_eq_false (fun h => hu (.inr ⟨he, h⟩))
   clear he hu
   go_wp2
   refine bodyPost_ret (results_none rfl _ _ _) rfl ?_
   exact ⟨⟨_, rfl⟩, HI3.out, HK3.out, HB3.out⟩
  ·
   have hg2 : (s1 == st.sp) = false := by simpa using he
   clear he hu
   go_wp2
   refine bodyPost_ret (results_none rfl _ _ _) rfl ?_
   exact ⟨⟨_, rfl⟩, HI3.out, HK3.out, HB3.out⟩
end
theorem qru (cells : List S136) (sets : List Int) (many : Int) (d i : Nat) (so : List Int) (x : Int) (st : BSt) (h : i + (d + 1) = sets.length) :
  qaI.lp cells sets many (d + 1) so x st = qaI.lp cells sets many d so x (qaI.cz cells sets many d (so ++ [(i : Int)]) (Go.bits .or .i64 x (rd sets (i : Int))) st) := by
 have e : sets.length - (d + 1) = i := by omega
 rw [qaI.lp, e, qaI.cz]
 simp
theorem qnb {W : World} {B c : Nat} {A : Option Addr} {mix : List Int} {ok : Nat → Prop} (h : Kd.R (Kd.int .i64) 3 W B ok (.slice A mix.length c) mix) (hl : mix.length ≤ 10) (x : Int) :
  ∃ v' w', (Builtin.append_ #[37, 37] 37 #[.slice A mix.length mix.length, .slice (some ⟨W.heap.size, 0, none⟩) 1 1]).run Try.prog (W.alloc (.cells #[.int .i64 x] 3)) = .ok v' w' ∧
   Kd.R (Kd.int .i64) 3 w' W.heap.size (fun _ => True) v' (mix ++ [x]) ∧ W.grownBy w' none := by
 have hC := (Kd.R_reads' h).2.2
 have hinf : (Try.prog.info? 3).map (fun i => (i.zero, i.size, i.bytes)) = some (some (.int .i64 0), 1, 8) := by kernel_rfl
 obtain ⟨i0, hi, hz0, hz1, hz2⟩ := info_parts hinf
 have hb1 : Below W.heap.size W (W.alloc (.cells #[.int .i64 x] 3)) := (Below.refl _ W).alloc (Nat.le_refl _) _
 have hnews : ∀ j u, [Value.int .i64 x][j]? = some u → (W.alloc (.cells #[.int .i64 x] 3)).cell? (Addr.add ⟨W.heap.size, 0, none⟩ j) = some u := by
  intro j u hj
  have hj0 : j = 0 := by
   have := (List.getElem?_eq_some_iff.1 hj).1
   simpa using this
  subst hj0
  rw [show Addr.add ⟨W.heap.size, 0, none⟩ 0 = (⟨W.heap.size, 0, none⟩ : Addr) by simp [Addr.add]]
  rw [← hj]
  exact (qai (World.alloc_heap_new W _) 0).trans rfl
 have fin : ∀ (v' : Value) (w' : World), w'.ownsRow (W.alloc (.cells #[.int .i64 x] 3)).heap.size 3 1 v' (mix.length + 1) (mix.map (Value.int .i64) ++ [.int .i64 x]) → (W.alloc (.cells #[.int .i64 x] 3)).grownBy w' none → Kd.R (Kd.int .i64) 3 w' W.heap.size (fun _ => True) v' (mix ++ [x]) ∧ W.grownBy w' none := by
  intro v' w' ho hg
  refine ⟨Kd.R_of_own (qjC (base := (W.alloc (.cells #[.int .i64 x] 3)).heap.size) ?_ (by simp)) (fun _ _ => trivial), (World.grownBy_alloc W _ none).trans hg⟩
  have e1 : (mix ++ [x]).length = mix.length + 1 := by simp
  have e2 : encs (Value.int .i64) (mix ++ [x]) = mix.map (Value.int .i64) ++ [.int .i64 x] := by simp [encs]
  rw [e1, e2]
  exact ho
 cases A with
 | none =>
  have hm : mix = [] := by
   by_cases hz : 0 < mix.length
   ·
    obtain ⟨ad, e, _⟩ := qiJ (W := W) hC (Below.refl _ _) (by simpa using hz); cases e
   ·
    exact List.eq_nil_of_length_eq_zero (by omega)
  subst hm
  obtain ⟨v', w', hrun, r1, r2, _⟩ := run_append_own (P := Try.prog) (W.alloc (.cells #[.int .i64 x] 3)) (W.alloc (.cells #[.int .i64 x] 3)).heap.size 37 37 3 i0 (.int .i64 0) 1 8 Try.underlying37 hi hz0 hz1 hz2 rfl (by decide) (.slice none 0 0) 0 [] (World.ownsRow_nil _ _ 3 1) ⟨W.heap.size, 0, none⟩ 1 1 [.int .i64 x] rfl hnews (by simp [Value.oneCell']) (by decide) (by decide) (Nat.le_refl _)
  exact ⟨v', w', hrun, fin v' w' (by simpa using r1) (by simpa [Value.ownBlock] using r2)⟩
 | some ad =>
  obtain ⟨v', w', hrun, r1, r2⟩ := run_append_arg_grows (P := Try.prog) (W.alloc (.cells #[.int .i64 x] 3)) 37 37 3 i0 (.int .i64 0) 1 8 Try.underlying37 hi hz0 hz1 hz2 rfl (by decide) ad mix.length mix.length (mix.map (Value.int .i64)) (by simp) (fun j u hj => by
   obtain ⟨ad', e, hc⟩ := qiJ (w := W) (W := W.alloc (.cells #[.int .i64 x] 3)) hC hb1 (by have := (List.getElem?_eq_some_iff.1 hj).1; omega)
   cases e
   exact hc j u hj) ⟨W.heap.size, 0, none⟩ 1 1 [.int .i64 x] rfl hnews (by omega) (by simp only [maxLen]; omega) (by omega)
  exact ⟨v', w', hrun, fin v' w' r1 r2⟩
theorem qkW {P : Program} {ops : Array Oper} {Q : Exit → Act → World → Prop} {o : Oper} {a : Act} {W W1 : World} {K : Act → World → Prop} (hw : Region.wanted o (yielded ops a.tmps) = true) (s x : Operand) (t t1 : TypeId)
  (ho : o.op = .call { callee := .builtin .append, args := #[s, x], argTypes := #[t, t] }) (hty : o.type = t1) {vs vx v : Value} (hs : a.eval s = vs) (hx : a.eval x = vx) (hrun : (Builtin.append_ #[t, t] t1 #[vs, vx]).run P W = .ok v W1) (h : K (a.put o.dst v) W1) :
  if Region.wanted o (yielded ops a.tmps) = true then Oper.wp P o a W K Q else K (a.put o.dst undef) W := by
 rw [if_pos hw]
 subst hty
 unfold Oper.wp execOp
 simp only [ho, resolve, invoke, builtin, Sem.run_bind, Sem.run_pure, Result.andThen_ok, List.map_toArray, List.map_cons, List.map_nil, hs, hx, hrun]
 exact h
theorem qto {P : Program} {ops : Array Oper} {Q : Exit → Act → World → Prop} {oi : Oper} {N : Option Tmp} {a : Act} {w : World} {K : Act → World → Prop} {f : FuncId} {fn : Func} {ao : Array Operand} {ts : Array TypeId} (hf : P.funcs[f]? = some fn) (hname : (fn.name == "runtime.NumGoroutine") = false) (hb : fn.body.isSome = true) (args : Array Value) (t : Tmp) (bound caps : Array Value)
  (hw : Region.wanted oi (yielded ops a.tmps) = true) (hN : oi.dst = N) (hop : oi.op = .call { callee := .value (.tmp t), args := ao, argTypes := ts }) (hev : a.eval (.tmp t) = .func (.func f) bound caps) (hargs : bound ++ ao.map a.eval ++ caps = args)
  (h : Calls P f args w fun e w' => ∃ v, e = .returned v ∧ K (a.put N v) w') : if Region.wanted oi (yielded ops a.tmps) = true then Oper.wp P oi a w K Q else K (a.put N undef) w := by
 refine qoQ f args hw hN ?_ h
 have he := qiM hf hname hb args w
 unfold execOp
 simp [hop, resolve, Deferred.ofValue, invoke, hev, hargs, he]
section
variable {N0 seb sb lb cb tb fb bm : Nat} {A : Option Addr} {c : Nat} {cells : List S136} {At : Option Addr} {ct : Nat} {sets : List Int}
attribute [-go_sem] Builtin.append_
set_option maxHeartbeats 4000000 in
set_option maxRecDepth 100000 in
theorem qfS.calls (many : Int) (hn : sets.length ≤ 8) : ∀ (d0 : Nat) (v : Value) (so : List Int) (x : Int) (st : BSt) (W : World), ((so = [] ∧ d0 = sets.length) ∨ ∃ (p : List Int) (l : Nat), so = p ++ [(l : Int)] ∧ l + 1 + d0 = sets.length) → so.length + d0 ≤ sets.length →
  BxI N0 seb sb lb cb tb fb bm A c cells At ct sets W st → N0 ≤ W.heap.size → Kd.R (Kd.int .i64) 3 W N0 (fun k => ¬ BxS sb lb cb bm k) v so → (Lit.int .i64 x).wf = true →
  Calls Try.prog 90 #[v, .agg #[.int .i64 x], .int .i64 many, .pointer (some ⟨seb, 0, none⟩), .pointer (some ⟨sb, 0, none⟩), .pointer (some ⟨lb, 0, none⟩), .pointer (some ⟨cb, 0, none⟩), .pointer (some ⟨tb, 0, none⟩), .pointer (some ⟨fb, 0, none⟩)] W
   fun e w' => (∃ u, e = .returned u) ∧ BxI N0 seb sb lb cb tb fb bm A c cells At ct sets w' (qaI.cz cells sets many d0 so x st) ∧ Kept W w' (BxS sb lb cb bm) ∧ Below N0 W w' := by
 intro d0
 induction d0 using Nat.strongRecOn with
 | ind d0 ih =>
 intro v so x st W hfrom hlen hI hN hv hx
 by_cases hm : (so.length : Int) = many
 ·
  subst hm
  rw [qaI.cz, if_pos rfl]
  exact qfS.leaf v so x hI hN hv hx
 ·
  obtain ⟨fin, hfin⟩ : ∃ fin, qaI.cz cells sets many d0 so x st = fin := ⟨_, rfl⟩
  rw [hfin]
  rw [qaI.cz, if_neg hm] at hfin
  have hm2 : ((so.length : Int) == many) = false := by simpa using hm
  obtain ⟨Av, cv, rfl, hcv, hCv⟩ := Kd.R_reads hv
  have qqC := Try.underlying139
  have hbl := qaf (Below.refl W.heap.size W) (.cells #[.int .i64 x] 139)
  have hIa := hI.below hbl hN
  have hmx : so.length ≤ 9223372036854775807 := hCv.2.1
  obtain ⟨W1, hW1⟩ : ∃ W1, W.alloc (.cells #[.int .i64 x] 139) = W1 := ⟨_, rfl⟩
  have hx1 : W1.heap[W.heap.size]? = some (.cells #[.int .i64 x] 139 (0, 0)) := by rw [← hW1]; exact World.alloc_heap_new W _
  have hC1 : Kd.C (Kd.int .i64) W1 Av so.length so := by rw [← hW1]; exact Kd.C_below hCv hbl
  have hV1 : Kd.R (Kd.int .i64) 3 W1 N0 (fun k => ¬ BxS sb lb cb bm k) (.slice Av so.length cv) so := by rw [← hW1]; exact Kd.R_below hv hbl
  rw [hW1] at hbl hIa
  have hlt : W.heap.size < W1.heap.size := qaA hx1
  have hbs : ∀ k, BxS sb lb cb bm k → k < W.heap.size := fun k hk => by
   rcases hk with rfl | rfl | rfl | rfl
   ·
    exact qaA hI.spb
   ·
    exact qaA hI.lob
   ·
    obtain ⟨_, h, _⟩ := hI.chb; exact qaA h
   ·
    exact hI.map.lt
  obtain ⟨fr, hfr⟩ : ∃ fr : Nat, fr + d0 = sets.length := ⟨sets.length - d0, by omega⟩
  have hlast : so ≠ [] → 0 < so.length ∧ rd so ((so.length : Int) - 1) = (fr : Int) - 1 := fun h => by
   rcases hfrom with ⟨h1, _⟩ | ⟨p, l, rfl, hl⟩
   ·
    exact absurd h1 h
   ·
    refine ⟨by simp, ?_⟩
    simp [rd, List.getD_eq_getElem?_getD]
    omega
  have hfirst : so = [] → fr = 0 := fun h => by
   rcases hfrom with ⟨h1, h2⟩ | ⟨p, l, rfl, hl⟩
   ·
    omega
   ·
    simp at h
  have HF := qaa.mk hfin
  have HIA := qaa.mk hIa
  have HBL := qaa.mk hbl
  have HX1 := qaa.mk hx1
  have HV1 := qaa.mk hV1
  have HC1 := qaa.mk hC1
  have HFR := qaa.mk hfr
  have HBS := qaa.mk hbs
  clear hfin hIa hbl hx1 hV1 hC1 hfr hI hv hCv hfrom hbs hm
  go_enter Try.func90, Try.ntmps90
  go_upto_if 45 with (fail)
  go_cut [13] (fun v13 wc => v13 = .int .i64 (fr : Int) ∧ wc = W1)
  case first =>
   by_cases hso : so = []
   ·
    have h0 := hfirst hso; subst h0
    have hl1 : ¬ (0 < so.length) := by rw [hso]; decide
    have hl0 : decide (0 < so.length) = false := decide_eq_false hl1; clear hso hlast hfirst
    go_wp2
    go_meet
    case rel => exact ⟨rfl, rfl⟩
   ·
    obtain ⟨hp, hl⟩ := hlast hso; obtain ⟨ad, ea, hxl⟩ := Kd.at_int HC1.out ((so.length : Int) - 1) (by omega) (by omega); subst ea; rw [hl] at hxl; rw [show ((so.length : Int) - 1).toNat = so.length - 1 by omega] at hxl; have hl0 : decide (0 < so.length) = true := decide_eq_true hp
    have hfr8 : fr ≤ 8 := by have := HFR.out; omega
    have hw1 : ((fr : Int) - 1 + 1) = (fr : Int) := by omega
    clear hlast hfirst hl hso
    go_wp2
    go_meet
    case rel => exact ⟨by rw [← hw1], rfl⟩
  case rest =>
   obtain ⟨rfl, rfl⟩ := hcut
   clear hlast hfirst
   go_wp2
   go_loopg [14] d0 (fun d v14 wr => ∃ (i : Nat), v14 = .int .i64 (i : Int) ∧ qaa (i + d = sets.length ∧ d ≤ d0) ∧ qaa (∃ st', BxI N0 seb sb lb cb tb fb bm A c cells At ct sets wr st' ∧ qaI.lp cells sets many d so x st' = fin) ∧ qaa (Kept wc wr (BxS sb lb cb bm)) ∧ qaa (Below N0 wc wr))
   case atStart => exact ⟨fr, rfl, ⟨HFR.out, Nat.le_refl _⟩, ⟨st, HIA.out, HF.out⟩, ⟨Kept.refl _ _⟩, ⟨Below.refl _ _⟩⟩
   case round =>
    obtain ⟨i, rfl, HD, HS, HK, HB⟩ := hrel; obtain ⟨st', hI', hlp⟩ := HS.out; have htb : wr.cell? ⟨tb, 0, none⟩ = some (.slice At sets.length ct) := (qai hI'.tbx 0).trans rfl; have HI' := qaa.mk hI'; have HLP := qaa.mk hlp
    have hn9 : sets.length ≤ 9223372036854775807 := by omega
    clear hI' hlp HS
    by_cases hi : i < sets.length
    ·
     obtain ⟨d, rfl⟩ : ∃ d, gk = d + 1 := ⟨gk - 1, by have := HD.out; omega⟩; have hDD := HD.out; obtain ⟨tr, cr, er, _, _, _, _⟩ := Kd.R_form HI'.out.row (by omega)
     injection er with e1 _ e2
     subst e1 e2; obtain ⟨ad, ea, hel⟩ := Kd.at_int (Kd.R_reads' HI'.out.row).2.2 (i : Int) (by omega) (by omega)
     injection ea with ea
     subst ea; rw [Int.toNat_natCast] at hel
     have hel : wr.cell? ⟨tr, i, none⟩ = some (.int .i64 (rd sets (i : Int))) := by rwa [qhG] at hel
     have hfb : wr.cell? ⟨fb, 0, none⟩ = some (.func (.func 90) #[] #[.pointer (some ⟨seb, 0, none⟩), .pointer (some ⟨sb, 0, none⟩), .pointer (some ⟨lb, 0, none⟩), .pointer (some ⟨cb, 0, none⟩), .pointer (some ⟨tb, 0, none⟩), .pointer (some ⟨fb, 0, none⟩)]) := (qai HI'.out.fbx 0).trans rfl; have hxr : wr.heap[W.heap.size]? = some (.cells #[.int .i64 x] 139 (0, 0)) := qfh HX1.out HK.out (fun h => by have := HBS.out _ h; omega); have hx0 : wr.cell? ⟨W.heap.size, 0, none⟩ = some (.int .i64 x) := (qai hxr 0).trans rfl; have hsz : wc.heap.size ≤ wr.heap.size := HK.out.1; have hVr : Kd.R (Kd.int .i64) 3 wr.drew N0 (fun k => ¬ BxS sb lb cb bm k) (.slice Av so.length cv) so := Kd.R_drew (Kd.R_kept HV1.out HK.out (fun k hk => hk)); obtain ⟨v1, w1, hrun', hr1, hg1⟩ := qnb hVr (by omega) (i : Int); have hg0 : wr.grownBy w1 none := qhS hg1; have hb1 : Below wr.heap.size wr w1 := (Below.refl _ _).grown hg0 (Nat.le_refl _) (fun k e => by cases e); have qDl := qhH (P := Try.prog) 37 3 Try.underlying37 rfl Av so.length cv hcv; obtain ⟨or, hor⟩ : ∃ o, Go.bits .or .i64 x (rd sets (i : Int)) = o := ⟨_, rfl⟩; have hlp2 := HLP.out; rw [qru cells sets many d i so x st' hDD.1, hor] at hlp2
     have hworz : (Lit.int .i64 or).wf = true := by rw [← hor]; exact qtb _ _ _ _
     have hNr : N0 ≤ wr.heap.size := by omega
     have hN1 : N0 ≤ w1.heap.size := by have := hb1.size; omega
     have hr1' : Kd.R (Kd.int .i64) 3 w1 N0 (fun k => ¬ BxS sb lb cb bm k) v1 (so ++ [(i : Int)]) := Kd.R_mono (Kd.R_bound (Kd.R_lower (Kd.R_mono (Kd.R_bound hr1) (fun k hk => (⟨hk.2.1, trivial⟩ : wr.drew.heap.size ≤ k ∧ True))) (show N0 ≤ wr.drew.heap.size from hNr))) (fun k hk e => by have h1 := HBS.out k e; have h2 : wr.heap.size ≤ k := hk.1.1; omega); have hcall := ih d (by omega) v1 (so ++ [(i : Int)]) or st' w1 (.inr ⟨so, i, rfl, by omega⟩) (by simp; omega) (HI'.out.below hb1 hNr) hN1 hr1' hworz
     have hSb : ∀ z : World, Below wr.heap.size wr z → z.cell? ⟨fb, 0, none⟩ = some (.func (.func 90) #[] #[.pointer (some ⟨seb, 0, none⟩), .pointer (some ⟨sb, 0, none⟩), .pointer (some ⟨lb, 0, none⟩), .pointer (some ⟨cb, 0, none⟩), .pointer (some ⟨tb, 0, none⟩), .pointer (some ⟨fb, 0, none⟩)]) ∧ z.cell? ⟨W.heap.size, 0, none⟩ = some (.int .i64 x) ∧ z.cell? ⟨tb, 0, none⟩ = some (.slice (some ⟨tr, 0, none⟩) sets.length ct) ∧ z.cell? ⟨tr, i, none⟩ = some (.int .i64 (rd sets (i : Int))) := fun z hz =>
      ⟨(hz.cell (World.block_lt_of_cell? wr _ hfb)).trans hfb, (hz.cell (World.block_lt_of_cell? wr _ hx0)).trans hx0, (hz.cell (World.block_lt_of_cell? wr _ htb)).trans htb, (hz.cell (World.block_lt_of_cell? wr _ hel)).trans hel⟩
     have htrS : ¬ BxS sb lb cb bm tr := HI'.out.row.1 tr rfl
     have hSk : ∀ z : World, Kept w1 z (BxS sb lb cb bm) → z.cell? ⟨fb, 0, none⟩ = some (.func (.func 90) #[] #[.pointer (some ⟨seb, 0, none⟩), .pointer (some ⟨sb, 0, none⟩), .pointer (some ⟨lb, 0, none⟩), .pointer (some ⟨cb, 0, none⟩), .pointer (some ⟨tb, 0, none⟩), .pointer (some ⟨fb, 0, none⟩)]) ∧ z.cell? ⟨W.heap.size, 0, none⟩ = some (.int .i64 x) ∧ z.cell? ⟨tb, 0, none⟩ = some (.slice (some ⟨tr, 0, none⟩) sets.length ct) ∧ z.cell? ⟨tr, i, none⟩ = some (.int .i64 (rd sets (i : Int))) := fun z hz => by
      obtain ⟨q1, q2, q3, q4⟩ := hSb w1 hb1; refine ⟨YtmhomdohhihlcaaW.PrintWords.qiy q1 hz (fun e => ?_), YtmhomdohhihlcaaW.PrintWords.qiy q2 hz (fun e => ?_), YtmhomdohhihlcaaW.PrintWords.qiy q3 hz (fun e => ?_), YtmhomdohhihlcaaW.PrintWords.qiy q4 hz htrS⟩
      ·
       obtain ⟨a1, a2, a3, a4⟩ := HI'.out.n3
       rcases e with e | e | e | e
       ·
        exact a1 e
       ·
        exact a2 e
       ·
        exact a3 e
       ·
        exact a4 e
      ·
       have := HBS.out _ e
       exact absurd this (Nat.lt_irrefl _)
      ·
       obtain ⟨a1, a2, a3, a4⟩ := HI'.out.n2
       rcases e with e | e | e | e
       ·
        exact a1 e
       ·
        exact a2 e
       ·
        exact a3 e
       ·
        exact a4 e
     have HSk := qaa.mk hSk; have HSb := qaa.mk hSb; have HB1 := qaa.mk hb1; have HLP2 := qaa.mk hlp2; have HRUN := qaa.mk (show (Builtin.append_ #[37, 37] 37 #[.slice Av so.length so.length, .slice (some ⟨wr.heap.size, 0, none⟩) 1 1]).run Try.prog (wr.alloc (.cells #[.int .i64 (i : Int)] 3)).drew = .ok v1 w1 from hrun'); have HCALL := qaa.mk hcall; clear hSk htrS hSb hb1 hlp2 hrun' hcall hg1 hg0 hr1 hr1' hworz hxr hDD
     go_wp2
     go_upto_region 11 with (fail)
     go_region_held3 (fun z => z.cell? ⟨fb, 0, none⟩ = some (.func (.func 90) #[] #[.pointer (some ⟨seb, 0, none⟩), .pointer (some ⟨sb, 0, none⟩), .pointer (some ⟨lb, 0, none⟩), .pointer (some ⟨cb, 0, none⟩), .pointer (some ⟨tb, 0, none⟩), .pointer (some ⟨fb, 0, none⟩)]) ∧ z.cell? ⟨W.heap.size, 0, none⟩ = some (.int .i64 x) ∧ z.cell? ⟨tb, 0, none⟩ = some (.slice (some ⟨tr, 0, none⟩) sets.length ct) ∧ z.cell? ⟨tr, i, none⟩ = some (.int .i64 (rd sets (i : Int))))
      (first | exact HSb.out _ (qbs (Below.refl _ _)) | exact HSb.out _ (qbs (qaf (Below.refl _ _) _)) | exact HSb.out _ (qaf (qbs (Below.refl _ _)) _) | exact HSb.out _ HB1.out | exact HSk.out _ hKe | go_keep)
      (first | (refine qkW ?hwA (.tmp 66) (.tmp 68) 37 37 rfl rfl rfl rfl HRUN.out ?_; (case hwA => rfl)) | (refine qto Try.func90 ?hnm rfl #[v1, .agg #[.int .i64 or], .int .i64 many, .pointer (some ⟨seb, 0, none⟩), .pointer (some ⟨sb, 0, none⟩), .pointer (some ⟨lb, 0, none⟩), .pointer (some ⟨cb, 0, none⟩), .pointer (some ⟨tb, 0, none⟩), .pointer (some ⟨fb, 0, none⟩)] 60 #[] #[.pointer (some ⟨seb, 0, none⟩), .pointer (some ⟨sb, 0, none⟩), .pointer (some ⟨lb, 0, none⟩), .pointer (some ⟨cb, 0, none⟩), .pointer (some ⟨tb, 0, none⟩), .pointer (some ⟨fb, 0, none⟩)] ?hwC rfl rfl ?hevC ?hagC ?_; (case hnm => kernel_rfl); (case hwC => rfl); (case hevC => rfl); (case hagC => simp only [List.map_toArray, List.map_cons, List.map_nil]; rfl); refine HCALL.out.mono ?_; rintro e W' ⟨⟨u, rfl⟩, hIe, hKe, hBe⟩; refine ⟨u, rfl, ?_⟩))
     all_goals
      have HIE := qaa.mk hIe; have HKE := qaa.mk hKe; have HBE := qaa.mk hBe; clear hIe hKe hBe
      go_wp2
      go_roundg d
      case measure => omega
      case rel => exact ⟨i + 1, by simp, ⟨by have := HD.out; omega⟩, ⟨_, HIE.out, HLP2.out⟩, ⟨(HK.out.below HB1.out).then_ HKE.out (fun k hk => .inl hk)⟩, ⟨(HB.out.trans (HB1.out.mono hNr)).trans HBE.out⟩⟩
    ·
     have hlp2 := HLP.out
     have hd0 : gk = 0 := by have := HD.out; omega
     subst hd0; rw [qaI.lp] at hlp2; subst hlp2
     go_wp2
     go_end0
     exact ⟨⟨_, rfl⟩, HI'.out, ((Kept.of_below HBL.out _).then_ HK.out (fun k hk => .inl hk)), (HBL.out.mono hN).trans HB.out⟩
end
end Go.Proofs.Ytmhomdohhihlcaa.P
namespace Go.Proofs.Ytmhomdohhihlcaa.P
open Go.RowKit Go.Proofs.YtmhomdohhihlcaaW.PrintWords Go.Proofs.YtmhomdohhihlcaaW.PrintLast Go.Proofs.YtmhomdohhihlcaaW.PrintMore
def wi (a b c : Int) : Bool := decide (b ≤ a ∧ a ≤ c)
theorem qna {a b c : Int} : wi a b c = true ↔ b ≤ a ∧ a ≤ c := by simp [wi]
theorem qgJ (a b c : Int) (w : World) : Calls Try.prog 65 #[.int .i64 a, .int .i64 b, .int .i64 c] w fun e w' => e = .returned (.bool (wi a b c)) ∧ qbz w w' := by
 refine qas.calls a b c (wi a b c) w ?_
 unfold qas.f wi
 by_cases h : b ≤ a
 ·
  rw [if_pos h]; simp [h]
 ·
  rw [if_neg h]; simp [h]
def qaI.okc : List S136 → Bool → Bool
 | [], b => b
 | c :: cs, b => qaI.okc cs (b && wi c.f0 0 10000 && wi c.f1 0 10000)
def qaI.rowf (m : Int) : List Int → Int → Int → Option Int
 | [], _, acc => some acc
 | c :: cs, last, acc => if wi c (last + 1) (m - 1) = true then qaI.rowf m cs c (Go.bits .or .i64 acc (shl .i64 1 c)) else none
def qaI.rows (m : Int) : List (List Int) → Option (List Int)
 | [] => some []
 | l :: ls => (qaI.rowf m l (-1) 0).bind fun x => (qaI.rows m ls).map (x :: ·)
def qaI.tries (cells : List S136) (sets : List Int) : Nat → Nat → BSt → BSt
 | 0, _, st => st
 | k + 1, many, st => qaI.tries cells sets k (many + 1) (qaI.cz cells sets (many : Int) sets.length [] 0 st)
def qaI.g (l0 : List S136) (l1 : List (List Int)) (a2 : Int) : List Int × Int × Int × Int :=
 match qaI.rows (l0.length : Int) l1 with
 | none => ([], 0, 0, 94)
 | some sets =>
  if qaI.okc l0 (decide ((l0.length : Int) ≤ 12) && decide ((l1.length : Int) ≤ 8)) = true then
   if wi a2 0 8 = true then
    ((qaI.tries l0 sets (min a2.toNat sets.length + 1) 0 ⟨[], 0, 0⟩).ch, (qaI.tries l0 sets (min a2.toNat sets.length + 1) 0 ⟨[], 0, 0⟩).sp, (qaI.tries l0 sets (min a2.toNat sets.length + 1) 0 ⟨[], 0, 0⟩).lo, 0)
   else ([], 0, 0, 7)
  else ([], 0, 0, 94)
def qaI.f (l0 : List S136) (l1 : List (List Int)) (a2 : Int) : Option (List Int × Int × Int × Int) :=
 if l1.length ≤ 35184372088832 then some (qaI.g l0 l1 a2) else none
structure Bx0 (w W : World) : Prop where
 c : W.heap[w.heap.size]? = some (.cells #[.slice none 0 0] 37 (0, 0))
 s : W.heap[w.heap.size + 1]? = some (.cells #[.int .i64 0] 3 (0, 0))
 l : W.heap[w.heap.size + 1 + 1]? = some (.cells #[.int .i64 0] 3 (0, 0))
 below : Below w.heap.size w W
theorem Bx0.keep {w W W1 : World} (h : Bx0 w W) (hb : Below W.heap.size W W1) : Bx0 w W1 := ⟨qan h.c hb, qan h.s hb, qan h.l hb, h.below.trans (hb.mono h.below.size)⟩
theorem Bx0.start (w : World) : Bx0 w (((w.alloc (.cells #[.slice none 0 0] 37)).alloc (.cells #[.int .i64 0] 3)).alloc (.cells #[.int .i64 0] 3)) := by
 refine ⟨qab (qab (World.alloc_heap_new w _) _) _, qab ?_ _, ?_, qaf (qaf (qaf (Below.refl _ _) _) _) _⟩
 ·
  have := World.alloc_heap_new (w.alloc (.cells #[.slice none 0 0] 37)) (.cells #[.int .i64 0] 3)
  rwa [World.size_alloc] at this
 ·
  have := World.alloc_heap_new ((w.alloc (.cells #[.slice none 0 0] 37)).alloc (.cells #[.int .i64 0] 3)) (.cells #[.int .i64 0] 3)
  rwa [World.size_alloc, World.size_alloc] at this
theorem Bx0.again {w W : World} (h : Bx0 w W) : Bx0 w (((W.setCell ⟨w.heap.size, 0, none⟩ (.slice none 0 0)).setCell ⟨w.heap.size + 1, 0, none⟩ (.int .i64 0)).setCell ⟨w.heap.size + 1 + 1, 0, none⟩ (.int .i64 0)) :=
  ⟨qao (qao (qaw h.c 0 _ rfl) (p := ⟨w.heap.size + 1, 0, none⟩) (by simp) _) (p := ⟨w.heap.size + 1 + 1, 0, none⟩) (by simp; omega) _,
   qao (qaw (qao h.s (p := ⟨w.heap.size, 0, none⟩) (by simp) _) 0 _ rfl) (p := ⟨w.heap.size + 1 + 1, 0, none⟩) (by simp) _,
   qaw (qao (qao h.l (p := ⟨w.heap.size, 0, none⟩) (by simp; omega) _) (p := ⟨w.heap.size + 1, 0, none⟩) (by simp) _) 0 _ rfl,
   qag (qag (qag h.below (Nat.le_refl _)) (by omega)) (by omega)⟩
theorem results40 (tmps : Array Value) (W : World) (g1 g2 g3 : Nat) (v1 : Value) (n2 n3 : Int) (h6 : tmps.getD 6 undef = .pointer (some ⟨g1, 0, none⟩)) (h7 : tmps.getD 7 undef = .pointer (some ⟨g2, 0, none⟩)) (h8 : tmps.getD 8 undef = .pointer (some ⟨g3, 0, none⟩))
  (k1 : W.heap[g1]? = some (.cells #[v1] 37 (0, 0))) (k2 : W.heap[g2]? = some (.cells #[.int .i64 n2] 3 (0, 0))) (k3 : W.heap[g3]? = some (.cells #[.int .i64 n3] 3 (0, 0))) :
  (results Try.f40 tmps).run Try.prog W = .ok (.tuple #[v1, .int .i64 n2, .int .i64 n3, tmps.getD 9 undef]) W := by
 have c1 : W.cell? ⟨g1, 0, none⟩ = some v1 := (qai k1 0).trans rfl
 have c2 : W.cell? ⟨g2, 0, none⟩ = some (.int .i64 n2) := (qai k2 0).trans rfl
 have c3 : W.cell? ⟨g3, 0, none⟩ = some (.int .i64 n3) := (qai k3 0).trans rfl
 have h6' : tmps[6]?.getD undef = .pointer (some ⟨g1, 0, none⟩) := by simpa using h6
 have h7' : tmps[7]?.getD undef = .pointer (some ⟨g2, 0, none⟩) := by simpa using h7
 have h8' : tmps[8]?.getD undef = .pointer (some ⟨g3, 0, none⟩) := by simpa using h8
 simp [results, Try.results40, asAddr, h6', h7', h8', go_sem, c1, c2, c3]
theorem qny : ∀ (l : List S136) (b : Bool), qaI.okc l b = true → b = true
 | [], b, h => h
 | c :: cs, b, h => by
  have := qny cs _ h
  cases b with
  | true => rfl
  | false => simp at this
structure Bx1 (w : World) (tb n ct : Nat) (At : Option Addr) (sl : List Int) (W : World) : Prop where
 x : Bx0 w W
 t : W.heap[tb]? = some (.cells #[.slice At n ct] 137 (0, 0))
 r : Kd.R (Kd.int .i64) 139 W w.heap.size (fun _ => True) (.slice At n ct) sl
theorem Bx1.keep {w W W1 : World} {tb n ct : Nat} {At : Option Addr} {sl : List Int} (h : Bx1 w tb n ct At sl W) (hb : Below W.heap.size W W1) : Bx1 w tb n ct At sl W1 := ⟨h.x.keep hb, qan h.t hb, Kd.R_below h.r hb⟩
theorem Bx1.put {w W : World} {tb n ct tr : Nat} {sl : List Int} (h : Bx1 w tb n ct (some ⟨tr, 0, none⟩) sl W) (i : Nat) (x : Int) : Bx1 w tb n ct (some ⟨tr, 0, none⟩) (sl.set i x) (W.setCell ⟨tr, i, none⟩ (.int .i64 x)) := by
 obtain ⟨cs, hcs⟩ := Kd.R_typed h.r tr rfl
 have hne : ∀ {g t : Nat} {c : Array Value}, W.heap[g]? = some (.cells c t (0, 0)) → t ≠ 139 → g ≠ tr := fun {g t c} hg ht e => by
  rw [e, hcs] at hg
  injection hg with hg
  injection hg with _ hg
  exact ht hg.symm
 have hbt : w.heap.size ≤ tr := Kd.R_base h.r tr rfl
 have h1 := (Kd.R_putg h.r (i : Int) x).1
 rw [Int.toNat_natCast] at h1
 exact ⟨⟨qao h.x.c (p := ⟨tr, i, none⟩) (hne h.x.c (by decide)) _, qao h.x.s (p := ⟨tr, i, none⟩) (hne h.x.s (by decide)) _, qao h.x.l (p := ⟨tr, i, none⟩) (hne h.x.l (by decide)) _, qag h.x.below hbt⟩, qao h.t (p := ⟨tr, i, none⟩) (hne h.t (by decide)) _, h1⟩
theorem qjW {W : World} {g g' t t' : Nat} {c c' : Array Value} (h : W.heap[g]? = some (.cells c t (0, 0))) (h' : W.heap[g']? = some (.cells c' t' (0, 0))) (ht : t ≠ t') : g ≠ g' := fun e => by
 rw [e, h'] at h
 injection h with h
 injection h with _ h
 exact ht h.symm
theorem Bx1.ready {w W : World} {tb n ct c : Nat} {At A : Option Addr} {sl : List Int} {l0 : List S136} (h : Bx1 w tb n ct At sl W) (hn : sl.length = n) (hC : Kd.C k136 w A l0.length l0) (hc : l0.length ≤ c) :
  BxI w.heap.size (W.heap.size + 1) (w.heap.size + 1) (w.heap.size + 1 + 1) w.heap.size tb (W.heap.size + 1 + 1) W.heap.size A c l0 At ct sl
   (((W.alloc (.map #[] 0)).alloc (.cells #[.slice A l0.length c, .map (some W.heap.size)] 142)).alloc (.cells #[.func (.func 90) #[] #[.pointer (some ⟨W.heap.size + 1, 0, none⟩), .pointer (some ⟨w.heap.size + 1, 0, none⟩), .pointer (some ⟨w.heap.size + 1 + 1, 0, none⟩), .pointer (some ⟨w.heap.size, 0, none⟩), .pointer (some ⟨tb, 0, none⟩), .pointer (some ⟨W.heap.size + 1 + 1, 0, none⟩)]] 143)) ⟨[], 0, 0⟩ := by
 subst hn
 obtain ⟨Wf, hWf⟩ : ∃ Wf, (((W.alloc (.map #[] 0)).alloc (.cells #[.slice A l0.length c, .map (some W.heap.size)] 142)).alloc (.cells #[.func (.func 90) #[] #[.pointer (some ⟨W.heap.size + 1, 0, none⟩), .pointer (some ⟨w.heap.size + 1, 0, none⟩), .pointer (some ⟨w.heap.size + 1 + 1, 0, none⟩), .pointer (some ⟨w.heap.size, 0, none⟩), .pointer (some ⟨tb, 0, none⟩), .pointer (some ⟨W.heap.size + 1 + 1, 0, none⟩)]] 143)) = Wf := ⟨_, rfl⟩
 have hb : Below W.heap.size W Wf := by rw [← hWf]; exact qaf (qaf (qaf (Below.refl _ _) _) _) _
 have hm : Wf.heap[W.heap.size]? = some (.map #[] 0) := by rw [← hWf]; exact qab (qab (World.alloc_heap_new W _) _) _
 have hs : Wf.heap[W.heap.size + 1]? = some (.cells #[.slice A l0.length c, .map (some W.heap.size)] 142 (0, 0)) := by
  rw [← hWf]
  refine qab ?_ _
  have := World.alloc_heap_new (W.alloc (.map #[] 0)) (.cells #[.slice A l0.length c, .map (some W.heap.size)] 142)
  rwa [World.size_alloc] at this
 have hf : Wf.heap[W.heap.size + 1 + 1]? = some (.cells #[.func (.func 90) #[] #[.pointer (some ⟨W.heap.size + 1, 0, none⟩), .pointer (some ⟨w.heap.size + 1, 0, none⟩), .pointer (some ⟨w.heap.size + 1 + 1, 0, none⟩), .pointer (some ⟨w.heap.size, 0, none⟩), .pointer (some ⟨tb, 0, none⟩), .pointer (some ⟨W.heap.size + 1 + 1, 0, none⟩)]] 143 (0, 0)) := by
  rw [← hWf]
  have := World.alloc_heap_new ((W.alloc (.map #[] 0)).alloc (.cells #[.slice A l0.length c, .map (some W.heap.size)] 142)) (.cells #[.func (.func 90) #[] #[.pointer (some ⟨W.heap.size + 1, 0, none⟩), .pointer (some ⟨w.heap.size + 1, 0, none⟩), .pointer (some ⟨w.heap.size + 1 + 1, 0, none⟩), .pointer (some ⟨w.heap.size, 0, none⟩), .pointer (some ⟨tb, 0, none⟩), .pointer (some ⟨W.heap.size + 1 + 1, 0, none⟩)]] 143)
  rwa [World.size_alloc, World.size_alloc] at this
 rw [hWf]
 have hlt0 := qaA h.x.l
 have hltt := qaA h.t
 have hbw : Below w.heap.size w Wf := h.x.below.trans (hb.mono h.x.below.size)
 have hrow : Kd.R (Kd.int .i64) 139 Wf w.heap.size (fun k => ¬ BxS (w.heap.size + 1) (w.heap.size + 1 + 1) w.heap.size W.heap.size k) (.slice At sl.length ct) sl := by
  refine Kd.R_mono (Kd.R_bound (Kd.R_below h.r hb)) (fun k hk e => ?_)
  obtain ⟨_, _, _, q, hq, cs, hcs⟩ := hk
  have hq9 : q = 139 := by simpa [Kd.int, Kd.scalar] using hq
  subst hq9
  rcases e with e | e | e | e
  ·
   exact qjW hcs (qan h.x.s hb) (by decide) e
  ·
   exact qjW hcs (qan h.x.l hb) (by decide) e
  ·
   exact qjW hcs (qan h.x.c hb) (by decide) e
  ·
   rw [e, hm] at hcs
   cases hcs
 refine ⟨hs, qan h.x.s hb, qan h.x.l hb, ⟨_, qan h.x.c hb, Kd.R_nil _ _ _ _ _⟩, qan h.t hb, hf, hrow, ⟨_, _, hm, fun e he => by simp at he⟩, Kd.C_below hC hbw, hc, ⟨by omega, by omega, by omega, by omega⟩,
  ⟨qjW h.t h.x.s (by decide), qjW h.t h.x.l (by decide), qjW h.t h.x.c (by decide), by omega⟩, ⟨by omega, by omega, by omega, by omega⟩, ⟨by omega, by omega, by omega, by omega, by omega, by omega⟩, ⟨by omega, by omega, by omega, by omega⟩, fun W' hb' => Kd.C_below hC (hbw.trans hb')⟩
theorem qrk : (Try.prog.info? 139).map (fun i => (i.zero, i.size, i.bytes)) = some (some (.agg #[.int .i64 0]), 1, 8) := by kernel_rfl
set_option maxHeartbeats 8000000 in
set_option maxRecDepth 100000 in
theorem qaI.calls (A0 : Option Addr) (c0 : Nat) (l0 : List S136) (A1 : Option Addr) (c1 : Nat) (l1 : List (List Int)) (a2 : Int) (r1 : List Int) (r2 r3 r4 : Int) (w : World) (hr0 : Kd.C k136 w A0 l0.length l0) (hc0 : l0.length ≤ c0) (hr1 : Kd.C (Kd.slice 3 (Kd.int .i64)) w A1 l1.length l1) (hc1 : l1.length ≤ c1) (h : qaI.f l0 l1 a2 = some (r1, r2, r3, r4)) :
  Calls Try.prog 40 #[.slice A0 l0.length c0, .slice A1 l1.length c1, .int .i64 a2] w fun e w' => ∃ v0_, e = .returned (.tuple #[v0_, .int .i64 r2, .int .i64 r3, .int .i64 r4]) ∧ Kd.V (Kd.int .i64) 3 w' w.heap.size (fun k_ => w.heap.size ≤ k_) v0_ r1 ∧ Below w.heap.size w w' := by
 obtain ⟨hsz, hg⟩ : l1.length ≤ 35184372088832 ∧ qaI.g l0 l1 a2 = (r1, r2, r3, r4) := by
  unfold qaI.f at h
  by_cases hs : l1.length ≤ 35184372088832
  ·
   rw [if_pos hs] at h
   exact ⟨hs, Option.some.inj h⟩
  ·
   rw [if_neg hs] at h
   cases h
 clear h
 have hmx0 : l0.length ≤ 9223372036854775807 := hr0.2.1
 have hmx1 : l1.length ≤ 9223372036854775807 := hr1.2.1
 have HR0 := qaa.mk hr0
 have HR1 := qaa.mk hr1
 have HG := qaa.mk hg
 have qpe := Try.underlying136
 obtain ⟨ok, hok⟩ : ∃ ok, qaI.okc l0 (decide ((l0.length : Int) ≤ 12) && decide ((l1.length : Int) ≤ 8)) = ok := ⟨_, rfl⟩
 have HOK := qaa.mk hok
 have HX0 := qaa.mk (Bx0.start w)
 obtain ⟨ok1, hok1⟩ : ∃ b, (decide ((l0.length : Int) ≤ 12) && decide ((l1.length : Int) ≤ 8)) = b := ⟨_, rfl⟩
 rw [hok1] at HOK
 obtain ⟨W0, hW0⟩ : ∃ W0, ((w.alloc (.cells #[.slice none 0 0] 37)).alloc (.cells #[.int .i64 0] 3)).alloc (.cells #[.int .i64 0] 3) = W0 := ⟨_, rfl⟩
 rw [hW0] at HX0
 have HOK1 := qaa.mk hok1
 clear hr0 hr1 hg hok hok1
 go_enter Try.func40, Try.ntmps40
 go_upto_region 1 with (fail)
 go_cut [10] (fun v10 wc => v10 = .bool ok1 ∧ wc = W0)
 case first =>
  by_cases h12 : (l0.length : Int) ≤ 12
  ·
   have g12 : decide ((l0.length : Int) ≤ 12) = true := decide_eq_true h12
   by_cases h8 : (l1.length : Int) ≤ 8
   ·
    have g8 : decide ((l1.length : Int) ≤ 8) = true := decide_eq_true h8
    go_wp2
    go_meet
    case rel => exact ⟨by rw [← HOK1.out, g12, g8]; rfl, rfl⟩
   ·
    have g8 : decide ((l1.length : Int) ≤ 8) = false := decide_eq_false h8
    go_wp2
    go_meet
    case rel => exact ⟨by rw [← HOK1.out, g12, g8]; rfl, rfl⟩
  ·
   have g12 : decide ((l0.length : Int) ≤ 12) = false := decide_eq_false h12
   go_wp2
   go_meet
   case rel => exact ⟨by rw [← HOK1.out, g12]; rfl, rfl⟩
 case rest =>
  obtain ⟨rfl, rfl⟩ := hcut
  go_wp2
  go_loopg [10, 32] l0.length (fun d v10 v32 wr => ∃ (b : Bool) (i : Nat), v10 = .bool b ∧ v32 = .int .i64 (i : Int) ∧ qaa (i + d = l0.length) ∧ qaa (qaI.okc (l0.drop i) b = ok) ∧ qaa (Bx0 w wr))
  case atStart => exact ⟨ok1, 0, rfl, rfl, ⟨by omega⟩, ⟨by simpa using HOK.out⟩, HX0⟩
  case round =>
   obtain ⟨b, i, rfl, rfl, HD, HO, HX⟩ := hrel
   by_cases hi : i < l0.length
   ·
    obtain ⟨d, rfl⟩ : ∃ d, gk = d + 1 := ⟨gk - 1, by have := HD.out; omega⟩; obtain ⟨ad, ea, hx0, hx1⟩ := qnU HR0.out (i : Int) (by omega) (by omega); subst ea; replace hx0 := (HX.out.below.cell (World.block_lt_of_cell? w _ hx0)).trans hx0; replace hx1 := (HX.out.below.cell (World.block_lt_of_cell? w _ hx1)).trans hx1; rw [Int.toNat_natCast] at hx0 hx1
    have ho2 : qaI.okc (l0.drop (i + 1)) (b && wi (qem l0 (i : Int)).f0 0 10000 && wi (qem l0 (i : Int)).f1 0 10000) = ok := by
     have h5 := HO.out
     have e : qem l0 (i : Int) = l0[i] := by simp [qem, List.getD_eq_getElem?_getD, List.getElem?_eq_getElem hi]
     rw [List.drop_eq_getElem_cons hi] at h5; rw [e]
     exact h5
    obtain ⟨e0, he0⟩ : ∃ e0, (qem l0 (i : Int)).f0 = e0 := ⟨_, rfl⟩; obtain ⟨e1, he1⟩ : ∃ e1, (qem l0 (i : Int)).f1 = e1 := ⟨_, rfl⟩; rw [he0] at hx0 ho2; rw [he1] at hx1 ho2; have HO2 := qaa.mk ho2; clear ho2 he0 he1 HO
    cases b with
    | false =>
     go_wp2
     go_roundg d
     case measure => omega
     case rel => exact ⟨false, i + 1, rfl, by simp, ⟨by have := HD.out; omega⟩, ⟨by simpa using HO2.out⟩, ⟨HX.out.keep (qaf (Below.refl _ _) _)⟩⟩
    | true =>
     obtain ⟨b1, hb1⟩ : ∃ b1, wi e0 0 10000 = b1 := ⟨_, rfl⟩
     cases b1 with
     | false =>
      have HO3 := HO2.out; rw [hb1] at HO3
      go_wp2_with (go_at_call 65; refine (qgJ _ _ _ _).mono ?_; rintro e w' ⟨rfl, ⟨nd, rfl⟩⟩)
      go_roundg d
      case measure => omega
      case rel => exact ⟨false, i + 1, rfl, by simp, ⟨by have := HD.out; omega⟩, ⟨by simpa using HO3⟩, ⟨HX.out.keep (qad (qaf (Below.refl _ _) _) _)⟩⟩
     | true =>
      have HO3 := HO2.out; rw [hb1] at HO3
      go_wp2_with (go_at_call 65; refine (qgJ _ _ _ _).mono ?_; rintro e w' ⟨rfl, ⟨nd, rfl⟩⟩)
      go_roundg d
      case measure => omega
      case rel => exact ⟨wi e1 0 10000, i + 1, rfl, by simp, ⟨by have := HD.out; omega⟩, ⟨by simpa using HO3⟩, ⟨HX.out.keep (by repeat (first | exact Below.refl _ _ | apply qad | apply qaf))⟩⟩
   ·
    have hio : b = ok := by
     have h5 := HO.out; rw [List.drop_eq_nil_of_le (by omega)] at h5
     exact h5
    subst hio; clear HD HO
    go_wp2_with ((with_reducible refine qtA (.makeSlice 137 (.tmp 49) (.tmp 49)) rfl ?_); refine Kd.R_make (Kd.int .i64) w.heap.size 139 rfl (N := 50) rfl 137 _ _ rfl (l1.length : Int) rfl rfl Try.underlying137 (.agg #[.int .i64 0]) 8 qrk rfl (by decide) (by omega) 0 (ok := fun _ => True) (okp := fun _ => True) rfl (fun _ hk => hk) trivial (by omega) (by simp; omega) HX.out.below HX.out.below.size ?_; intro v1 w1 hv1 hb1 hg1 hn1; obtain ⟨At, ct, ev, hct, hCt⟩ := Kd.R_reads hv1; rw [List.length_replicate, Int.toNat_natCast] at ev; subst ev)
    clear hi
    have hX1 : Bx1 w w1.heap.size l1.length ct At (List.replicate l1.length 0) (w1.alloc (.cells #[.slice At l1.length ct] 137)) := by
     rw [Int.toNat_natCast] at hv1
     exact ⟨(HX.out.keep ((Below.refl _ wr).grown hg1 (Nat.le_refl _) (fun k e => by cases e))).keep (qaf (Below.refl _ _) _), World.alloc_heap_new _ _, Kd.R_below hv1 (qaf (Below.refl _ _) _)⟩
    have hnt : w1.heap.size < (w1.alloc (.cells #[.slice At l1.length ct] 137)).heap.size := by simp
    have HX1 := qaa.mk hX1; obtain ⟨rr, hrr⟩ : ∃ rr, qaI.rows (l0.length : Int) l1 = rr := ⟨_, rfl⟩; have HRR := qaa.mk hrr; obtain ⟨tb, htb⟩ : ∃ tb, w1.heap.size = tb := ⟨_, rfl⟩; rw [htb] at HX1 ⊢; clear hX1 hrr hv1 hb1 hg1 hn1 hct hCt HX hnt
    go_loopg [53] l1.length (fun d v53 wr => ∃ (i : Nat), v53 = .int .i64 (i : Int) ∧ qaa (i + d = l1.length) ∧ qaa (∃ done : List Int, done.length = i ∧ rr = (qaI.rows (l0.length : Int) (l1.drop i)).map (done ++ ·) ∧ Bx1 w tb l1.length ct At (done ++ List.replicate (l1.length - i) 0) wr))
    case atStart => exact ⟨0, rfl, ⟨by omega⟩, ⟨[], rfl, by rw [List.drop_zero, HRR.out]; simp, by simpa using HX1.out⟩⟩
    case round =>
     clear HX1 htb; obtain ⟨i, rfl, HD, HE⟩ := hrel; obtain ⟨done, hdl, hdr, hX⟩ := HE.out
     by_cases hi : i < l1.length
     ·
      obtain ⟨d, rfl⟩ : ∃ d, gk = d + 1 := ⟨gk - 1, by have := HD.out; omega⟩; obtain ⟨ad, Al, cl, ea, hxl, hcl, hCl⟩ := qmV HR1.out (i : Int) (by omega) (by omega); subst ea; replace hxl := (hX.x.below.cell (World.block_lt_of_cell? w _ hxl)).trans hxl; rw [Int.toNat_natCast] at hxl; obtain ⟨lst, hlst⟩ : ∃ lst, qaT l1 (i : Int) = lst := ⟨_, rfl⟩; rw [hlst] at hxl hcl hCl
      have hdrop : l1.drop i = lst :: l1.drop (i + 1) := by
       rw [List.drop_eq_getElem_cons hi, ← hlst]
       congr 1
       simp [qaT, List.getD_eq_getElem?_getD, List.getElem?_eq_getElem hi]
      have hdr2 : rr = ((qaI.rowf (l0.length : Int) lst (-1) 0).bind fun x => (qaI.rows (l0.length : Int) (l1.drop (i + 1))).map (x :: ·)).map (done ++ ·) := by rw [hdr, hdrop]; rfl
      have hrep : List.replicate (l1.length - i) (0 : Int) = 0 :: List.replicate (l1.length - (i + 1)) 0 := by
       rw [show l1.length - i = (l1.length - (i + 1)) + 1 by omega, List.replicate_succ]
      rw [hrep] at hX; have hmxl : lst.length ≤ 9223372036854775807 := hCl.2.1; have HX := qaa.mk hX; have HCL := qaa.mk hCl; have HDL := qaa.mk hdl; have HDR2 := qaa.mk hdr2; clear hX hCl hdl hdr2 hdr hdrop hrep hlst hcl HE; obtain ⟨wo, hwo⟩ : ∃ wo : World, wo = wr := ⟨_, rfl⟩; subst hwo
      go_wp2
      go_loopg [16, 60] lst.length (fun d2 v16 v60 wr => ∃ (last : Int) (j : Nat) (acc : Int), v16 = .int .i64 last ∧ v60 = .int .i64 (j : Int) ∧ qaa (j + d2 = lst.length) ∧ qaa (-1 ≤ last ∧ last < (l0.length : Int) ∨ last = -1) ∧ qaa (qaI.rowf (l0.length : Int) lst (-1) 0 = qaI.rowf (l0.length : Int) (lst.drop j) last acc) ∧ qaa (Bx1 w tb l1.length ct At (done ++ acc :: List.replicate (l1.length - (i + 1)) 0) wr))
      case atStart => exact ⟨-1, 0, 0, rfl, rfl, ⟨by omega⟩, ⟨.inr rfl⟩, ⟨by simp⟩, HX⟩
      case round =>
       obtain ⟨last, j, acc, rfl, rfl, HD2, HLA, HRO, HX2⟩ := hrel
       have hla : -1 ≤ last ∧ last ≤ 9223372036854775806 := by rcases HLA.out with h | h <;> omega
       clear HX
       by_cases hj : j < lst.length
       ·
        obtain ⟨d2, rfl⟩ : ∃ d2, gk = d2 + 1 := ⟨gk - 1, by have := HD2.out; omega⟩; obtain ⟨adl, eal, hxc⟩ := Kd.at_int (Kd.C_below HCL.out HX2.out.x.below) (j : Int) (by omega) (by omega); subst eal; rw [Int.toNat_natCast] at hxc; obtain ⟨cc, hcc⟩ : ∃ cc, rd lst (j : Int) = cc := ⟨_, rfl⟩
        have hro2 : qaI.rowf (l0.length : Int) lst (-1) 0 = if wi cc (last + 1) ((l0.length : Int) - 1) = true then qaI.rowf (l0.length : Int) (lst.drop (j + 1)) cc (Go.bits .or .i64 acc (shl .i64 1 cc)) else none := by
         rw [HRO.out, List.drop_eq_getElem_cons hj, ← hcc]
         have e : rd lst (j : Int) = lst[j] := by simp [rd, List.getD_eq_getElem?_getD, List.getElem?_eq_getElem hj]
         rw [e]
         rfl
        rw [hcc] at hxc; clear hcc HRO
        by_cases hw : wi cc (last + 1) ((l0.length : Int) - 1) = true
        ·
         rw [if_pos hw] at hro2; have HRO2 := qaa.mk hro2; clear hro2; obtain ⟨hw1, hw2⟩ := qna.1 hw; obtain ⟨tr, cr, er, _, _, _, _⟩ := Kd.R_form HX2.out.r (by simp; omega)
         injection er with e1 e0 e2
         clear e0; subst e1 e2; have hX3 := HX2.out; clear HX2
         have hel : wr.cell? ⟨tr, i, none⟩ = some (.int .i64 acc) := by
          obtain ⟨ad2, ea2, hel⟩ := Kd.at_int (Kd.R_reads' hX3.r).2.2 (i : Int) (by omega) (by have := HDL.out; simp; omega)
          injection ea2 with ea2
          subst ea2; rw [Int.toNat_natCast, qhG] at hel; rw [hel]; have := HDL.out
          simp [rd, List.getD_eq_getElem?_getD, this]
         obtain ⟨gcs, hgcs⟩ := Kd.R_typed hX3.r tr rfl; have hef : wr.frozen? ⟨tr, i, none⟩ = false := qaj hgcs i; have htb : wr.cell? ⟨tb, 0, none⟩ = some (.slice (some ⟨tr, 0, none⟩) l1.length ct) := (qai hX3.t 0).trans rfl; obtain ⟨sh, hsh⟩ : ∃ sh, shl .i64 1 cc = sh := ⟨_, rfl⟩; have hr3 := HRO2.out; rw [hsh] at hr3; have HRO3 := qaa.mk hr3; have hji_ : (IntKind.i64.wrap (1 * 2 ^ min cc.toNat 64)) = sh := hsh; have hjiz : cc ≤ 64 → (IntKind.i64.wrap (1 * 2 ^ cc.toNat)) = sh := qpW hsh
         have hjiu : (IntKind.i64.wrap (2 ^ min cc.toNat 64)) = sh := by have h_ := hji_; rw [Int.one_mul] at h_; exact h_
         have hjiv : cc ≤ 64 → (IntKind.i64.wrap (2 ^ cc.toNat)) = sh := fun hle_ => by have h_ := hjiz hle_; rw [Int.one_mul] at h_; exact h_
         obtain ⟨or, hor⟩ : ∃ o, Go.bits .or .i64 acc sh = o := ⟨_, rfl⟩; have HX3 := qaa.mk hX3; clear hX3 hgcs hsh hr3 HRO2
         have hcc0 : 0 ≤ cc := by omega
         go_wp2_with (go_at_call 65; refine (qgJ _ _ _ _).mono ?_; rintro e w' ⟨rfl, ⟨nd, rfl⟩⟩)
         obtain ⟨w9, hw9⟩ : ∃ w9, wr.drewN nd = w9 := ⟨_, rfl⟩
         have hel9 : w9.cell? ⟨tr, i, none⟩ = some (.int .i64 acc) := by rw [← hw9]; exact hel
         have hef9 : w9.frozen? ⟨tr, i, none⟩ = false := by rw [← hw9]; exact hef
         have htb9 : w9.cell? ⟨tb, 0, none⟩ = some (.slice (some ⟨tr, 0, none⟩) l1.length ct) := by rw [← hw9]; exact htb
         have HX9 := qaa.mk (show Bx1 w tb l1.length ct (some ⟨tr, 0, none⟩) (done ++ acc :: List.replicate (l1.length - (i + 1)) 0) w9 by rw [← hw9]; exact HX3.out.keep (qad (Below.refl _ _) nd)); rw [hw9]; clear hw9 hel hef htb HX3
         go_still_tail 10, (by kernel_rfl)
         change wpList _ _ _ _ _ (World.drew _)
         go_wp2
         go_roundg d2
         case measure => omega
         case rel =>
          have hset : (done ++ acc :: List.replicate (l1.length - (i + 1)) 0).set i or = done ++ or :: List.replicate (l1.length - (i + 1)) 0 := by
           rw [← HDL.out, List.set_append_right _ _ (Nat.le_refl _), Nat.sub_self, List.set_cons_zero]
          have hput := HX9.out.put i or; rw [hset] at hput; refine ⟨cc, j + 1, or, rfl, by simp, ⟨by have := HD2.out; omega⟩, ⟨.inl ⟨by omega, by omega⟩⟩, ⟨?_⟩, ⟨hput.keep (qbs (Below.refl _ _))⟩⟩; rw [HRO3.out, hor]
        ·
         replace hw := Bool.eq_false_iff.mpr hw; rw [if_neg (by rw [hw]; decide)] at hro2
         have hrn : rr = none := by rw [HDR2.out, hro2]; rfl
         have hg := HG.out; unfold qaI.g at hg; rw [HRR.out, hrn] at hg; replace hg : (([], 0, 0, 94) : List Int × Int × Int × Int) = (r1, r2, r3, r4) := hg
         injection hg with e1 hg
         injection hg with e2 hg
         injection hg with e3 e4
         subst e1 e2 e3 e4; clear hro2 hrn; have hcb : wr.cell? ⟨w.heap.size, 0, none⟩ = some (.slice none 0 0) := (qai HX2.out.x.c 0).trans rfl; have hsb : wr.cell? ⟨w.heap.size + 1, 0, none⟩ = some (.int .i64 0) := (qai HX2.out.x.s 0).trans rfl; have hlb : wr.cell? ⟨w.heap.size + 1 + 1, 0, none⟩ = some (.int .i64 0) := (qai HX2.out.x.l 0).trans rfl; have hfc := qaj HX2.out.x.c 0; have hfs := qaj HX2.out.x.s 0; have hfl := qaj HX2.out.x.l 0
         go_wp2_with (go_at_call 65; refine (qgJ _ _ _ _).mono ?_; rintro e w' ⟨rfl, ⟨nd, rfl⟩⟩)
         have hXf := (HX2.out.x.keep (qad (Below.refl _ _) nd)).again; refine bodyPost_ret (results40 _ _ _ _ _ (.slice none 0 0) 0 0 rfl rfl rfl hXf.c hXf.s hXf.l) rfl ?_
         exact ⟨_, rfl, Kd.V_nil _ _ _ _ _, hXf.below⟩
       ·
        have hjl : j = lst.length := by have := HD2.out; omega
        subst hjl; have hr5 := HRO.out; rw [List.drop_length] at hr5; replace hr5 : qaI.rowf (l0.length : Int) lst (-1) 0 = some acc := hr5
        have hr6 : rr = (qaI.rows (l0.length : Int) (l1.drop (i + 1))).map ((done ++ [acc]) ++ ·) := by
         rw [HDR2.out, hr5]
         cases qaI.rows (l0.length : Int) (l1.drop (i + 1)) with
         | none => rfl
         | some z => simp
        have HR6 := qaa.mk hr6; clear hr5 hr6 HRO
        go_wp2
        go_roundg d
        case measure => omega
        case rel =>
         refine ⟨i + 1, by simp, ⟨by have := HD.out; omega⟩, ⟨done ++ [acc], by have := HDL.out; simp; omega, HR6.out, ?_⟩⟩; have h7 := HX2.out
         rwa [List.append_cons] at h7
     ·
      have hil : i = l1.length := by have := HD.out; omega
      subst hil; rw [List.drop_length] at hdr; replace hdr : rr = some (done ++ []) := hdr; rw [List.append_nil] at hdr; rw [Nat.sub_self, List.replicate_zero, List.append_nil] at hX; have hg := HG.out; unfold qaI.g at hg; rw [HRR.out, hdr] at hg
      replace hg : (if qaI.okc l0 (decide ((l0.length : Int) ≤ 12) && decide ((l1.length : Int) ≤ 8)) = true then
   if wi a2 0 8 = true then
    ((qaI.tries l0 done (min a2.toNat done.length + 1) 0 ⟨[], 0, 0⟩).ch, (qaI.tries l0 done (min a2.toNat done.length + 1) 0 ⟨[], 0, 0⟩).sp, (qaI.tries l0 done (min a2.toNat done.length + 1) 0 ⟨[], 0, 0⟩).lo, 0)
   else ([], 0, 0, 7)
  else ([], 0, 0, 94)) = (r1, r2, r3, r4) := hg
      rw [HOK1.out, HOK.out] at hg; have HX := qaa.mk hX; have HDL := qaa.mk hdl; clear hX hdl hdr HE
      cases b with
      | false =>
       rw [if_neg (by decide)] at hg
       injection hg with e1 hg
       injection hg with e2 hg
       injection hg with e3 e4
       subst e1 e2 e3 e4; have hcb : wr.cell? ⟨w.heap.size, 0, none⟩ = some (.slice none 0 0) := (qai HX.out.x.c 0).trans rfl; have hsb : wr.cell? ⟨w.heap.size + 1, 0, none⟩ = some (.int .i64 0) := (qai HX.out.x.s 0).trans rfl; have hlb : wr.cell? ⟨w.heap.size + 1 + 1, 0, none⟩ = some (.int .i64 0) := (qai HX.out.x.l 0).trans rfl; have hfc := qaj HX.out.x.c 0; have hfs := qaj HX.out.x.s 0; have hfl := qaj HX.out.x.l 0
       go_wp2
       have hXf := HX.out.x.again; refine bodyPost_ret (results40 _ _ _ _ _ (.slice none 0 0) 0 0 rfl rfl rfl hXf.c hXf.s hXf.l) rfl ?_
       exact ⟨_, rfl, Kd.V_nil _ _ _ _ _, hXf.below⟩
      | true =>
       rw [if_pos rfl] at hg
       by_cases hw8 : wi a2 0 8 = true
       ·
        rw [if_pos hw8] at hg
        have hn8 : done.length ≤ 8 := by
         have h1 := HOK.out; have h1 := qny _ _ h1; rw [← HOK1.out] at h1; have := HDL.out
         simp at h1
         omega
        obtain ⟨ha0, ha8⟩ := qna.1 hw8; obtain ⟨stF, hstF⟩ : ∃ stF, qaI.tries l0 done (min a2.toNat done.length + 1) 0 ⟨[], 0, 0⟩ = stF := ⟨_, rfl⟩; rw [hstF] at hg
        injection hg with e1 hg
        injection hg with e2 hg
        injection hg with e3 e4
        subst e1 e2 e3 e4; have HST := qaa.mk hstF; have htb : wr.cell? ⟨tb, 0, none⟩ = some (.slice At l1.length ct) := (qai HX.out.t 0).trans rfl; have hmm := @run_makeMap Try.prog; have qqB := Try.underlying142; have hltt := qaA HX.out.t; have hw8b : wi a2 0 8 = true := hw8; clear hstF hw8
        go_upto_region 25 with ((go_at_call 65; refine (qgJ _ _ _ _).mono ?_; rintro e w' ⟨rfl, ⟨nd, rfl⟩⟩))
        obtain ⟨w9, hw9⟩ : ∃ w9, wr.drewN nd = w9 := ⟨_, rfl⟩; have HX9 := qaa.mk (show Bx1 w tb l1.length ct At done w9 by rw [← hw9]; exact HX.out.keep (qad (Below.refl _ _) nd)); rw [hw9]; clear hw9 htb HX; have hR := HX9.out.ready HDL.out HR0.out hc0; obtain ⟨W3, hW3⟩ : ∃ W3, (((w9.alloc (.map #[] 0)).alloc (.cells #[.slice A0 l0.length c0, .map (some w9.heap.size)] 142)).alloc (.cells #[.func (.func 90) #[] #[.pointer (some ⟨w9.heap.size + 1, 0, none⟩), .pointer (some ⟨w.heap.size + 1, 0, none⟩), .pointer (some ⟨w.heap.size + 1 + 1, 0, none⟩), .pointer (some ⟨w.heap.size, 0, none⟩), .pointer (some ⟨tb, 0, none⟩), .pointer (some ⟨w9.heap.size + 1 + 1, 0, none⟩)]] 143)) = W3 := ⟨_, rfl⟩; have hB3 : Below w.heap.size w W3 := HX9.out.x.below.trans (by rw [← hW3]; exact (qaf (qaf (qaf (Below.refl _ _) _) _) _).mono HX9.out.x.below.size); rw [hW3] at hR; have HR := qaa.mk hR; have HB3 := qaa.mk hB3; have htb3 : W3.cell? ⟨tb, 0, none⟩ = some (.slice At done.length ct) := (qai hR.tbx 0).trans rfl; have qDm := qaA HX9.out.t; obtain ⟨mm, hmn⟩ : ∃ mm : Nat, (if (done.length : Int) < a2 then (done.length : Int) else a2) = (mm : Int) := ⟨min a2.toNat done.length, by split <;> omega⟩
        have hmin : min a2.toNat done.length = mm := by split at hmn <;> omega
        have HMM := qaa.mk hmin
        have hm8 : mm ≤ 8 := by omega
        clear hR hB3 hmin
        go_wp2
        have hst2 := HST.out; rw [HMM.out] at hst2; have HST2 := qaa.mk hst2; clear hst2 htb3 hmn hmm hW3
        go_loopg [99] (mm + 1) (fun d v99 wr => ∃ (k : Nat), v99 = .int .i64 (k : Int) ∧ qaa (k + d = mm + 1) ∧ qaa (∃ st', BxI w.heap.size (w9.heap.size + 1) (w.heap.size + 1) (w.heap.size + 1 + 1) w.heap.size tb (w9.heap.size + 1 + 1) w9.heap.size A0 c0 l0 At ct done wr st' ∧ qaI.tries l0 done d k st' = stF) ∧ qaa (Below w.heap.size w wr))
        case atStart => exact ⟨0, rfl, ⟨by omega⟩, ⟨_, HR.out, HST2.out⟩, HB3⟩
        case round =>
         obtain ⟨k, rfl, HK4, HS4, HB4⟩ := hrel; obtain ⟨st', hI4, hT4⟩ := HS4.out
         by_cases hk : k < mm + 1
         ·
          obtain ⟨d, rfl⟩ : ∃ d, gk = d + 1 := ⟨gk - 1, by have := HK4.out; omega⟩
          have hki : (k : Int) < (mm : Int) + 1 := by omega
          have hfb : wr.cell? ⟨w9.heap.size + 1 + 1, 0, none⟩ = some (.func (.func 90) #[] #[.pointer (some ⟨w9.heap.size + 1, 0, none⟩), .pointer (some ⟨w.heap.size + 1, 0, none⟩), .pointer (some ⟨w.heap.size + 1 + 1, 0, none⟩), .pointer (some ⟨w.heap.size, 0, none⟩), .pointer (some ⟨tb, 0, none⟩), .pointer (some ⟨w9.heap.size + 1 + 1, 0, none⟩)]) := (qai hI4.fbx 0).trans rfl; have hNw : w.heap.size ≤ wr.heap.size := HB4.out.size; have hcall := qfS.calls (many := (k : Int)) hn8 done.length (.slice none 0 0) [] 0 st' wr (.inl ⟨rfl, rfl⟩) (by simp) hI4 hNw (Kd.R_nil _ _ _ _ _) (by decide); have HCALL := qaa.mk hcall; have HT4 := qaa.mk (show qaI.tries l0 done d (k + 1) (qaI.cz l0 done (k : Int) done.length [] 0 st') = stF from hT4); clear hcall hT4 hI4 HS4
          go_wp2_with ((with_reducible refine qaN (N := 105) rfl ?_); refine qiP (some 105) rfl rfl Try.func90 ?hnm rfl #[.slice none 0 0, .agg #[.int .i64 0], .int .i64 (k : Int), .pointer (some ⟨w9.heap.size + 1, 0, none⟩), .pointer (some ⟨w.heap.size + 1, 0, none⟩), .pointer (some ⟨w.heap.size + 1 + 1, 0, none⟩), .pointer (some ⟨w.heap.size, 0, none⟩), .pointer (some ⟨tb, 0, none⟩), .pointer (some ⟨w9.heap.size + 1 + 1, 0, none⟩)] 102 #[] #[.pointer (some ⟨w9.heap.size + 1, 0, none⟩), .pointer (some ⟨w.heap.size + 1, 0, none⟩), .pointer (some ⟨w.heap.size + 1 + 1, 0, none⟩), .pointer (some ⟨w.heap.size, 0, none⟩), .pointer (some ⟨tb, 0, none⟩), .pointer (some ⟨w9.heap.size + 1 + 1, 0, none⟩)] rfl ?hevC ?hagC ?_; (case hnm => kernel_rfl); (case hevC => rfl); (case hagC => simp only [List.map_toArray, List.map_cons, List.map_nil]; rfl); refine HCALL.out.mono ?_; rintro e W' ⟨⟨u, rfl⟩, hIe, hKe, hBe⟩; refine ⟨u, rfl, ?_⟩)
          go_roundg d
          case measure => omega
          case rel => exact ⟨k + 1, by simp, ⟨by have := HK4.out; omega⟩, ⟨_, hIe, HT4.out⟩, ⟨HB4.out.trans hBe⟩⟩
         ·
          have hki : ¬ ((k : Int) < (mm : Int) + 1) := by omega
          have hd0 : gk = 0 := by have := HK4.out; omega
          subst hd0; replace hT4 : st' = stF := hT4; subst hT4; obtain ⟨vc, hcb, hcr⟩ := hI4.chb; have hc6 : wr.cell? ⟨w.heap.size, 0, none⟩ = some vc := (qai hcb 0).trans rfl; have hc7 : wr.cell? ⟨w.heap.size + 1, 0, none⟩ = some (.int .i64 st'.sp) := (qai hI4.spb 0).trans rfl; have hc8 : wr.cell? ⟨w.heap.size + 1 + 1, 0, none⟩ = some (.int .i64 st'.lo) := (qai hI4.lob 0).trans rfl; have hf6 := qaj hcb 0; have hf7 := qaj hI4.spb 0; have hf8 := qaj hI4.lob 0; obtain ⟨Ac, cc, rfl, hcc, hCc⟩ := Kd.R_reads hcr; have HI4 := qaa.mk hI4; have HCR := qaa.mk hcr; clear hI4 hcr hcb HS4 hCc
          go_wp2
          go_region
          go_wp2
          obtain ⟨g1, g2, g3⟩ := HI4.out.put (s1 := st'.sp) (s2 := st'.lo) HCR.out; obtain ⟨v7, k1, k2⟩ := g1.chb; have hbd := (g2.1); have hf1 := (qaw (qao (qao HI4.out.lob (p := ⟨w.heap.size, 0, none⟩) HI4.out.n4.2.2.2.1 (.slice Ac st'.ch.length cc)) (p := ⟨w.heap.size + 1, 0, none⟩) (Ne.symm HI4.out.n4.1) (.int .i64 st'.sp)) 0 (.int .i64 st'.lo) rfl)
          have hk6 : (((wr.setCell ⟨w.heap.size, 0, none⟩ (.slice Ac st'.ch.length cc)).setCell ⟨w.heap.size + 1, 0, none⟩ (.int .i64 st'.sp)).setCell ⟨w.heap.size + 1 + 1, 0, none⟩ (.int .i64 st'.lo)).heap[w.heap.size]? = some (.cells #[.slice Ac st'.ch.length cc] 37 (0, 0)) := by
           obtain ⟨v0, q1, _⟩ := HI4.out.chb
           exact qao (qao (qaw q1 0 _ rfl) (p := ⟨w.heap.size + 1, 0, none⟩) (by simp) _) (p := ⟨w.heap.size + 1 + 1, 0, none⟩) (by simp; omega) _
          have hRf : Kd.R (Kd.int .i64) 3 (((wr.setCell ⟨w.heap.size, 0, none⟩ (.slice Ac st'.ch.length cc)).setCell ⟨w.heap.size + 1, 0, none⟩ (.int .i64 st'.sp)).setCell ⟨w.heap.size + 1 + 1, 0, none⟩ (.int .i64 st'.lo)).drew w.heap.size (fun k_ => w.heap.size ≤ k_) (.slice Ac st'.ch.length cc) st'.ch :=
           Kd.R_drew (Kd.R_mono (Kd.R_bound (Kd.R_kept HCR.out g2 (fun k hk => hk))) (fun k hk => hk.2.1))
          refine bodyPost_ret (results40 _ _ _ _ _ (.slice Ac st'.ch.length cc) st'.sp st'.lo rfl rfl rfl hk6 g1.spb g1.lob) rfl ?_
          exact ⟨_, rfl, Kd.R_V hRf, (HB4.out.trans g3).trans (qbs (Below.refl w.heap.size _))⟩
       ·
        replace hw8 := Bool.eq_false_iff.mpr hw8; rw [if_neg (by rw [hw8]; decide)] at hg
        injection hg with e1 hg
        injection hg with e2 hg
        injection hg with e3 e4
        subst e1 e2 e3 e4; have hcb : wr.cell? ⟨w.heap.size, 0, none⟩ = some (.slice none 0 0) := (qai HX.out.x.c 0).trans rfl; have hsb : wr.cell? ⟨w.heap.size + 1, 0, none⟩ = some (.int .i64 0) := (qai HX.out.x.s 0).trans rfl; have hlb : wr.cell? ⟨w.heap.size + 1 + 1, 0, none⟩ = some (.int .i64 0) := (qai HX.out.x.l 0).trans rfl; have hfc := qaj HX.out.x.c 0; have hfs := qaj HX.out.x.s 0; have hfl := qaj HX.out.x.l 0
        go_wp2_with (go_at_call 65; refine (qgJ _ _ _ _).mono ?_; rintro e w' ⟨rfl, ⟨nd, rfl⟩⟩)
        have hXf := (HX.out.x.keep (qad (Below.refl _ _) nd)).again; refine bodyPost_ret (results40 _ _ _ _ _ (.slice none 0 0) 0 0 rfl rfl rfl hXf.c hXf.s hXf.l) rfl ?_
        exact ⟨_, rfl, Kd.V_nil _ _ _ _ _, hXf.below⟩
end Go.Proofs.Ytmhomdohhihlcaa.P
namespace Go.Proofs.Ytmhomdohhihlcaa.P
open Go.RowKit Go.Shelf Go.Proofs.YtmhomdohhihlcaaW.PrintWords Go.Proofs.YtmhomdohhihlcaaW.PrintLast Go.Proofs.YtmhomdohhihlcaaW.PrintMore
attribute [local go_sem] Oper.semAt_some
set_option maxHeartbeats 4000000 in
set_option maxRecDepth 100000 in
theorem qmM (n : Nat) (R : Nat) (rb B : Nat) (w : World) (hR1 : 1 ≤ R) (hR3 : R ≤ 3) (hB : B ≤ rb) (hr : w.heap[rb]? = some (.cells #[.int .i64 R] 3 (0, 0))) :
  qjS n Try.prog 95 #[.pointer (some ⟨rb, 0, none⟩)] B (qfI (R - 1) 100 []) w := by
 intro l J W hW hJ0 hJ hY h0
 have hmix : Try.prog.follows .mixedOrders = true := by kernel_rfl
 have hrW : W.heap[rb]? = some (.cells #[.int .i64 R] 3 (0, 0)) := (hW.block rb (qaA hr)).trans hr
 have hrlt : rb < W.heap.size := qaA hrW
 obtain ⟨Wb, hWb⟩ : ∃ Wb, (W.alloc (.cells #[.func (.yield l) #[] #[]] 147)).alloc (.cells #[.nilFunc] 87) = Wb := ⟨_, rfl⟩
 have hby : Wb.heap[W.heap.size]? = some (.cells #[.func (.yield l) #[] #[]] 147 (0, 0)) := by
  rw [← hWb]; exact (Below.heap_alloc _ _ _ (by simp)).trans (World.alloc_heap_new W _)
 have hbf : Wb.heap[W.heap.size + 1]? = some (.cells #[.nilFunc] 87 (0, 0)) := by
  rw [← hWb]; have := World.alloc_heap_new (W.alloc (.cells #[.func (.yield l) #[] #[]] 147)) (.cells #[.nilFunc] 87); rwa [World.size_alloc] at this
 have hbr : Wb.heap[rb]? = some (.cells #[.int .i64 R] 3 (0, 0)) := by
  rw [← hWb]; exact (Below.heap_alloc _ _ _ (by simp; omega)).trans ((Below.heap_alloc _ _ _ hrlt).trans hrW)
 have hsz : Wb.heap.size = W.heap.size + 2 := by rw [← hWb]; simp
 have hcf := (qai hbf 0).trans (show _ = some Value.nilFunc from rfl)
 have hff := qaj hbf 0
 obtain ⟨Wf, hWf⟩ : ∃ Wf, Wb.setCell ⟨W.heap.size + 1, 0, none⟩ (.func (.func 96) #[] #[.pointer (some ⟨rb, 0, none⟩), .pointer (some ⟨W.heap.size, 0, none⟩), .pointer (some ⟨W.heap.size + 1, 0, none⟩)]) = Wf := ⟨_, rfl⟩
 have hfy : Wf.heap[W.heap.size]? = some (.cells #[.func (.yield l) #[] #[]] 147 (0, 0)) := by
  rw [← hWf]; exact qao hby (p := ⟨W.heap.size + 1, 0, none⟩) (by simp) _
 have hff2 : Wf.heap[W.heap.size + 1]? = some (.cells #[.func (.func 96) #[] #[.pointer (some ⟨rb, 0, none⟩), .pointer (some ⟨W.heap.size, 0, none⟩), .pointer (some ⟨W.heap.size + 1, 0, none⟩)]] 87 (0, 0)) := by
  rw [← hWf]; exact qaw hbf 0 _ rfl
 have hfr : Wf.heap[rb]? = some (.cells #[.int .i64 R] 3 (0, 0)) := by
  rw [← hWf]; exact qao hbr (p := ⟨W.heap.size + 1, 0, none⟩) (by simp; omega) _
 have hszf : Wf.heap.size = W.heap.size + 2 := by rw [← hWf]; simpa using hsz
 have hgf : W.grownBy Wf (some (W.heap.size + 1)) := by
  rw [← hWf, ← hWb]
  exact ⟨rfl, rfl, rfl, by simp; omega, fun k hk _ => by
   refine (Below.heap_setCell _ _ _ k (by simp; omega)).trans ((Below.heap_alloc _ _ _ (by simp; omega)).trans (Below.heap_alloc _ _ _ hk))⟩
 have hJf : J [] Wf := hJ0 W Wf _ h0 hgf (fun r e => by cases e; omega)
 have hcell := (qai hff2 0).trans (show _ = some _ from rfl)
 have hcall := qkM (m := n - 1) (qrl n l R rb W.heap.size (W.heap.size + 1) B (qfI (R - 1) 100 []) J hJ (fun pre v x W1 hj hp hr => qkJ (hY pre v x W1 hj hp hr)) (R - 1) 100 [] (.slice none 0 0) [] Wf (by omega) (by omega) (by simp; omega) hR3 (by omega) (Kd.R_nil _ _ _ _ _)
  ⟨hfr, hfy, hff2, hB, by omega, by omega⟩ hJf (List.prefix_refl _))
 have H1 := qaa.mk hfy
 have H2 := qaa.mk hff2
 have H3 := qaa.mk hfr
 clear hfy hff2 hfr hbr hby hrW hJf hgf
 refine callsIn_of_wp Try.func95 rfl trivial ?_ rfl
 simp only [Try.ntmps95, List.size_toArray, List.length_cons, List.length_nil, Nat.reduceAdd, Nat.reduceSub, Array.replicate_succ, Array.replicate_zero, List.push_toArray, List.append_toArray, List.nil_append, List.cons_append]
 gi_wp2_with (refine ⟨trivial, fun e => by simp [Fence.wide] at e, hcall.mono ?_⟩; rintro e W' ⟨rfl, hJ', hk'⟩)
 go_end0
 exact ⟨⟨_, rfl⟩, hJ'⟩
end Go.Proofs.Ytmhomdohhihlcaa.P
namespace Go.Proofs.Ytmhomdohhihlcaa.P
open Go.RowKit Go.Proofs.YtmhomdohhihlcaaW.PrintWords Go.Proofs.YtmhomdohhihlcaaW.PrintLast Go.Proofs.YtmhomdohhihlcaaW.PrintMore
attribute [local go_sem] qb7 qb6 qcr qcq qbR qbS qb8 qb4
mutual
def qaO.j0 : Nat → List (S25) → Bool → Option (Bool)
 | 0, _, _ => none
 | k + 1, x0, x5 => qaO.l0 k x5 x0 (x0.length : Int) 0
def qaO.l0 : Nat → Bool → List (S25) → Int → Int → Option (Bool)
 | 0, _, _, _, _ => none
 | k + 1, x5, x16, x17, x18 => if x18 < x17 then (if 0 ≤ x18 then (if x18 < (x16.length : Int) then (if x5 = true then ((qdd.f ((qby x16 x18).f0) ((qby x16 x18).f1) 100).bind fun t131 => (qaO.l0 k t131 x16 x17 (wrap64 (x18 + 1)))) else (qaO.l0 k false x16 x17 (wrap64 (x18 + 1)))) else (none)) else (none)) else (some x5)
end
def qaO.f (k : Nat) (l0 : List (S25)) (a1 : Int) : Option (Bool) := (qas.f a1 1 6).bind fun t128 => (if t128 = true then (qaO.j0 k l0 ((l0.length : Int) == a1)) else (qaO.j0 k l0 false))
theorem qaO.mono_l : ∀ k, (∀ y0 y1, LeO (qaO.j0 k y0 y1) (qaO.j0 (k + 1) y0 y1)) ∧ (∀ y0 y1 y2 y3, LeO (qaO.l0 k y0 y1 y2 y3) (qaO.l0 (k + 1) y0 y1 y2 y3))
 | 0 => ⟨fun _ _ r h => by simp [qaO.j0] at h, fun _ _ _ _ r h => by simp [qaO.l0] at h⟩
 | k + 1 => by
  obtain ⟨ih0, ih1⟩ := qaO.mono_l k
  refine ⟨?_, ?_⟩
  ·
   intro y0 y1
   unfold qaO.j0
   repeat' first
   | (with_reducible exact ih0 _ _)
   | (with_reducible exact ih1 _ _ _ _)
   | (with_reducible exact LeO.refl _)
   | (with_reducible exact LeO.none _)
   | (with_reducible refine LeO.ite ?_ ?_)
   | (with_reducible refine LeO.bind ?_ (fun _ => ?_))
   | exact ih0 _ _
   | exact ih1 _ _ _ _
   | exact LeO.none _
   | refine LeO.ite ?_ ?_
   | refine LeO.bind ?_ (fun _ => ?_)
  intro y0 y1 y2 y3
  unfold qaO.l0
  repeat' first
  | (with_reducible exact ih0 _ _)
  | (with_reducible exact ih1 _ _ _ _)
  | (with_reducible exact LeO.refl _)
  | (with_reducible exact LeO.none _)
  | (with_reducible refine LeO.ite ?_ ?_)
  | (with_reducible refine LeO.bind ?_ (fun _ => ?_))
  | exact ih0 _ _
  | exact ih1 _ _ _ _
  | exact LeO.none _
  | refine LeO.ite ?_ ?_
  | refine LeO.bind ?_ (fun _ => ?_)
theorem qaO.mono : ∀ a0 a1 k, LeO (qaO.f k a0 a1) (qaO.f (k + 1) a0 a1) := by
 intro a0 a1 k
 obtain ⟨ih0, ih1⟩ := qaO.mono_l k
 unfold qaO.f
 repeat' first
   | (with_reducible exact ih0 _ _)
   | (with_reducible exact ih1 _ _ _ _)
   | (with_reducible exact LeO.refl _)
   | (with_reducible exact LeO.none _)
   | (with_reducible refine LeO.ite ?_ ?_)
   | (with_reducible refine LeO.bind ?_ (fun _ => ?_))
   | exact ih0 _ _
   | exact ih1 _ _ _ _
   | exact LeO.none _
   | refine LeO.ite ?_ ?_
   | refine LeO.bind ?_ (fun _ => ?_)
set_option maxHeartbeats 8000000 in
set_option maxRecDepth 100000 in
theorem qaO.calls (k : Nat) (A0 : Option Addr) (c0 : Nat) (l0 : List (S25)) (a1 : Int) (r : Bool) (w : World) (hr0 : Kd.C k25 w A0 l0.length l0) (hc0 : l0.length ≤ c0) (h : qaO.f k l0 a1 = some r) :
  Calls Try.prog 67 #[.slice A0 l0.length c0, .int .i64 a1] w fun e w' => e = .returned (.bool r) ∧ Below w.heap.size w w' := by
 have hu25 := Try.underlying25
 have HR0 := qaa.mk hr0
 have HC0 := qaa.mk hc0
 clear hr0 hc0
 have HB := qaa.mk (Below.refl w.heap.size w)
 have H : ((qas.f a1 1 6).bind fun t128 => (if t128 = true then (qaO.j0 k l0 ((l0.length : Int) == a1)) else (qaO.j0 k l0 false))) = some r := h
 clear h
 have HC3 := qaa.mk H
 clear H
 go_enter Try.func67, Try.ntmps67
 go_upto_region 1 with (fail)
 go_cut [5] (fun v5 wc => ∃ (kq : Nat) (x5_2 : Bool), v5 = .bool x5_2 ∧ qaa (qaO.j0 kq l0 x5_2 = some r) ∧ qaa (kq ≤ k) ∧ qaa (Below w.heap.size w wc))
 case first =>
  have H := HC3.out
  clear HC3
  replace H := Option.bind_eq_some_iff.mp H
  obtain ⟨t128, A40, H⟩ := H
  replace H : (if t128 = true then (qaO.j0 k l0 ((l0.length : Int) == a1)) else (qaO.j0 k l0 false)) = some r := H
  have A4 := qaa.mk A40
  clear A40
  by_cases c5 : t128 = true
  ·
   subst c5
   have H1 : (qaO.j0 k l0 ((l0.length : Int) == a1)) = some r := by rw [if_pos rfl] at H; exact H
   clear H
   have H := H1
   clear H1
   have H' := qaa.mk H
   clear H
   go_wp2_with (first | ((with_reducible refine qaK (f := 65) rfl ?_); refine qbm (some 9) rfl rfl Try.func65 (by kernel_rfl) rfl #[.int .i64 a1, .int .i64 1, .int .i64 6] rfl (by (try simp only [List.map_toArray, List.map_cons, List.map_nil]); first | done | rfl | (simp only [List.length_drop, List.length_take]; rfl)) ?_; (with_reducible refine (qas.calls a1 1 6 true _ A4.out).mono ?_); rintro e w' ⟨rfl, ⟨nd, rfl⟩⟩; refine ⟨_, rfl, ?_⟩))
   go_meet
   case rel => exact ⟨_, (((l0.length : Int) == a1)), (by first | rfl | (simp; done) | (simp [*]; done)), H', ⟨by first | omega | exact Nat.le_refl _⟩, ⟨by repeat (first | (with_reducible first | exact HB.out | apply qaf | apply qad | apply qah) | exact HB.out)⟩⟩
  replace c5 := Bool.eq_false_iff.mpr c5
  subst c5
  have H1 : (qaO.j0 k l0 false) = some r := by rw [if_neg (show ¬ (false = true) by decide)] at H; exact H
  clear H
  have H := H1
  clear H1
  have H' := qaa.mk H
  clear H
  go_wp2_with (first | ((with_reducible refine qaK (f := 65) rfl ?_); refine qbm (some 9) rfl rfl Try.func65 (by kernel_rfl) rfl #[.int .i64 a1, .int .i64 1, .int .i64 6] rfl (by (try simp only [List.map_toArray, List.map_cons, List.map_nil]); first | done | rfl | (simp only [List.length_drop, List.length_take]; rfl)) ?_; (with_reducible refine (qas.calls a1 1 6 false _ A4.out).mono ?_); rintro e w' ⟨rfl, ⟨nd, rfl⟩⟩; refine ⟨_, rfl, ?_⟩))
  go_meet
  case rel => exact ⟨_, (false), (by first | rfl | (simp; done) | (simp [*]; done)), H', ⟨by first | omega | exact Nat.le_refl _⟩, ⟨by repeat (first | (with_reducible first | exact HB.out | apply qaf | apply qad | apply qah) | exact HB.out)⟩⟩
 case rest =>
  clear HC3
  try clear p2
  try clear c5
  obtain ⟨kq, x5_2, rfl, HA, HJ2, HB⟩ := hcut
  cases kq with
  | zero => exact absurd HA.out (by simp [qaO.j0])
  | succ kj2 =>
   have H := HA.out
   clear HA
   simp only [qaO.j0] at H
   have H' := qaa.mk H
   clear H
   go_wp2
   go_loopg [5, 18] kj2 (fun kq v5 v18 w' => ∃ (x5_2 : Bool) (qcF : Int), v5 = .bool x5_2 ∧ v18 = .int .i64 qcF ∧ qaa (qaO.l0 kq x5_2 l0 (l0.length : Int) qcF = some r) ∧ qaa (kq ≤ kj2) ∧ qaa (Below w.heap.size w w'))
   case atStart => exact ⟨(x5_2), (0), (by first | rfl | (simp; done) | (simp [*]; done)), (by first | rfl | (simp; done) | (simp [*]; done)), H', ⟨Nat.le_refl _⟩, ⟨by repeat (first | (with_reducible first | exact HB.out | apply qaf | apply qad | apply qah) | exact HB.out)⟩⟩
   case round =>
    clear H'; (try clear p2); (try clear c5); (try clear p2); obtain ⟨x5_2, qcF, rfl, rfl, HA, HK2, HB⟩ := hrel
    cases gk with
    | zero => exact absurd HA.out (by simp [qaO.l0])
    | succ k2 =>
     have H := HA.out; clear HA; simp only [qaO.l0] at H
     by_cases c6 : qcF < (l0.length : Int)
     ·
      rw [if_pos c6] at H; have c6b0 : decide (qcF < (l0.length : Int)) = true := decide_eq_true c6; clear c6
      by_cases c7 : 0 ≤ qcF
      ·
       rw [if_pos c7] at H; have c7b0 : decide (0 ≤ qcF) = true := decide_eq_true c7; clear c7
       by_cases c8 : qcF < (l0.length : Int)
       ·
        rw [if_pos c8] at H; have c8b0 : decide (qcF < (l0.length : Int)) = true := decide_eq_true c8; clear c8
        by_cases c9 : x5_2 = true
        ·
         subst c9
         have H1 : ((qdd.f ((qby l0 qcF).f0) ((qby l0 qcF).f1) 100).bind fun t131 => (qaO.l0 k2 t131 l0 (l0.length : Int) (wrap64 (qcF + 1)))) = some r := by rw [if_pos rfl] at H; exact H
         clear H; have H := H1; clear H1; replace H := Option.bind_eq_some_iff.mp H; obtain ⟨t131, A100, H⟩ := H; replace H : (qaO.l0 k2 t131 l0 (l0.length : Int) (wrap64 (qcF + 1))) = some r := H; have A10 := qaa.mk A100; clear A100; have H' := qaa.mk H; clear H; have p129 : 0 ≤ (qcF : Int) := of_decide_eq_true (by first | (with_reducible assumption) | assumption); have q129 : qcF < (l0.length : Int) := of_decide_eq_true (by first | (with_reducible assumption) | assumption); obtain ⟨qur, e129, qhl, qhm⟩ := qhc HR0.out qcF p129 q129; cases e129; replace qhl := (HB.out.cell (World.block_lt_of_cell? w _ qhl)).trans qhl; replace qhm := (HB.out.cell (World.block_lt_of_cell? w _ qhm)).trans qhm; replace p129 := eq_true p129; replace q129 := eq_true q129
         go_wp2_with (first | ((with_reducible refine qaN (N := 7) rfl ?_); (try (refine qed (by rfl) ?_; dsimp only)); refine qa9 ?hg (N := 7) ?hd (cs := #[.int .i64 0, .int .i64 0]) (t := 25) ?hr ?_; (case hd => rfl); (case hg => rfl); (case hr => first | (go_simp; done) | (go_simp; rfl)); intro qhx hg w11 hbox hb; have n0_ := qaa.mk (qar (by repeat (first | (with_reducible first | exact HB.out | apply qaf | apply qad | apply qah) | exact HB.out)) hb); have n1_ := qaa.mk (hbox); have n2_ := qaa.mk ((by rw [hg]; exact (qam (by repeat (first | (with_reducible first | exact HB.out | apply qaf | apply qad | apply qah) | exact HB.out))) : w.heap.size ≤ qhx)); have n3_ := qaa.mk ((by rw [hg]; exact (qam (by repeat (first | (with_reducible first | exact HB.out | apply qaf | apply qad | apply qah) | exact HB.out))) : w.heap.size ≤ qhx)); clear HB; have HB := n0_; have qgC := n1_; have qus := n2_; have qmY := n3_; clear n0_ n1_ n2_ n3_; clear hb hbox hg; have qiX : w11.cell? ⟨qhx, 0, none⟩ = some (.int .i64 0) := (qai qgC.out 0).trans rfl; have qiY : w11.cell? ⟨qhx, 1, none⟩ = some (.int .i64 0) := (qai qgC.out 1).trans rfl; have qiZ := qaj qgC.out 0; have qi0 := qaj qgC.out 1) | (go_at_call 66; (with_reducible refine (qdd.calls ((qby l0 qcF).f0) ((qby l0 qcF).f1) 100 t131 _ A10.out).mono ?_); rintro e w13 ⟨rfl, hb⟩; have n0_ := qaa.mk (qan (g := qhx) (o := .cells #[.int .i64 ((qby l0 qcF).f0), .int .i64 ((qby l0 qcF).f1)] 25 (0, 0)) (by (with_reducible repeat (first | refine qac ?_ _ | refine qae ?_ | refine qab ?_ _)); refine qaw (cs := #[.int .i64 ((qby l0 qcF).f0), .int .i64 0]) ?_ 1 _ rfl; (with_reducible repeat (first | refine qac ?_ _ | refine qae ?_ | refine qab ?_ _)); refine qaw (cs := #[.int .i64 0, .int .i64 0]) ?_ 0 _ rfl; (with_reducible repeat (first | refine qac ?_ _ | refine qae ?_ | refine qab ?_ _)); exact qgC.out) hb); have n1_ := qaa.mk (qar (by repeat (first | (with_reducible first | exact HB.out | apply qaf | apply qad | apply qah | refine qag ?_ qmY.out) | exact HB.out)) hb); clear qgC; clear HB; have qgC := n0_; have HB := n1_; clear n0_ n1_; (try clear hb); (try clear hb2); (try clear hk); (try clear hi)))
         go_roundg k2
         case measure => have := HJ2.out; have := HK2.out; omega
         case rel => exact ⟨(t131), (wrap64 (qcF + 1)), (by first | rfl | (simp; done) | (simp [*]; done)), (by first | rfl | (simp; done) | (simp [*]; done)), H', ⟨by have := HJ2.out; have := HK2.out; omega⟩, ⟨by repeat (first | (with_reducible first | exact HB.out | apply qaf | apply qad | apply qah | refine qag ?_ qmY.out) | exact HB.out)⟩⟩
        replace c9 := Bool.eq_false_iff.mpr c9; subst c9
        have H1 : (qaO.l0 k2 false l0 (l0.length : Int) (wrap64 (qcF + 1))) = some r := by rw [if_neg (show ¬ (false = true) by decide)] at H; exact H
        clear H; have H := H1; clear H1; have H' := qaa.mk H; clear H; have p129 : 0 ≤ (qcF : Int) := of_decide_eq_true (by first | (with_reducible assumption) | assumption); have q129 : qcF < (l0.length : Int) := of_decide_eq_true (by first | (with_reducible assumption) | assumption); obtain ⟨qur, e129, qhl, qhm⟩ := qhc HR0.out qcF p129 q129; cases e129; replace qhl := (HB.out.cell (World.block_lt_of_cell? w _ qhl)).trans qhl; replace qhm := (HB.out.cell (World.block_lt_of_cell? w _ qhm)).trans qhm; replace p129 := eq_true p129; replace q129 := eq_true q129
        go_wp2_with (first | ((with_reducible refine qaN (N := 7) rfl ?_); (try (refine qed (by rfl) ?_; dsimp only)); refine qa9 ?hg (N := 7) ?hd (cs := #[.int .i64 0, .int .i64 0]) (t := 25) ?hr ?_; (case hd => rfl); (case hg => rfl); (case hr => first | (go_simp; done) | (go_simp; rfl)); intro qhx hg w14 hbox hb; have n0_ := qaa.mk (qar (by repeat (first | (with_reducible first | exact HB.out | apply qaf | apply qad | apply qah) | exact HB.out)) hb); have n1_ := qaa.mk (hbox); have n2_ := qaa.mk ((by rw [hg]; exact (qam (by repeat (first | (with_reducible first | exact HB.out | apply qaf | apply qad | apply qah) | exact HB.out))) : w.heap.size ≤ qhx)); have n3_ := qaa.mk ((by rw [hg]; exact (qam (by repeat (first | (with_reducible first | exact HB.out | apply qaf | apply qad | apply qah) | exact HB.out))) : w.heap.size ≤ qhx)); clear HB; have HB := n0_; have qgC := n1_; have qus := n2_; have qmY := n3_; clear n0_ n1_ n2_ n3_; clear hb hbox hg; have qgo : w14.cell? ⟨qhx, 0, none⟩ = some (.int .i64 0) := (qai qgC.out 0).trans rfl; have qgp : w14.cell? ⟨qhx, 1, none⟩ = some (.int .i64 0) := (qai qgC.out 1).trans rfl; have qgq := qaj qgC.out 0; have qgr := qaj qgC.out 1))
        go_roundg k2
        case measure => have := HJ2.out; have := HK2.out; omega
        case rel => exact ⟨(false), (wrap64 (qcF + 1)), (by first | rfl | (simp; done) | (simp [*]; done)), (by first | rfl | (simp; done) | (simp [*]; done)), H', ⟨by have := HJ2.out; have := HK2.out; omega⟩, ⟨by repeat (first | (with_reducible first | exact HB.out | apply qaf | apply qad | apply qah | refine qag ?_ qmY.out) | exact HB.out)⟩⟩
       rw [if_neg c8] at H
       exact absurd H (by simp)
      rw [if_neg c7] at H
      exact absurd H (by simp)
     rw [if_neg c6] at H; have c6b0 : decide (qcF < (l0.length : Int)) = false := decide_eq_false c6; clear c6; obtain rfl := Option.some.inj H
     go_wp2
     go_ret
     exact ⟨by first | rfl | (simp [qaG, qaH] <;> rfl) | (simp [*, qaG, qaH] <;> rfl), by repeat (first | (with_reducible first | exact HB.out | apply qaf | apply qad | apply qah) | exact HB.out)⟩
end Go.Proofs.Ytmhomdohhihlcaa.P
namespace Go.Proofs.Ytmhomdohhihlcaa.P
open Go.RowKit Go.Proofs.YtmhomdohhihlcaaW.PrintWords Go.Proofs.YtmhomdohhihlcaaW.PrintLast Go.Proofs.YtmhomdohhihlcaaW.PrintMore
attribute [local go_sem] qb7 qb6 qcr qcq qbR qbS qb8 qb4
def qa5.l0 : Nat → Int → List Int → Int → Int → Option (Int)
 | 0, _, _, _, _ => none
 | k + 1, x3, x6, x7, x8 => if x8 < x7 then (if 0 ≤ x8 then (if x8 < (x6.length : Int) then (qa5.l0 k (wrap64 (x3 + (rd x6 x8))) x6 x7 (wrap64 (x8 + 1))) else (none)) else (none)) else (some x3)
def qa5.f (k : Nat) (l0 : List Int) : Option (Int) := qa5.l0 k 0 l0 (l0.length : Int) 0
theorem qa5.mono_l : ∀ k, (∀ y0 y1 y2 y3, LeO (qa5.l0 k y0 y1 y2 y3) (qa5.l0 (k + 1) y0 y1 y2 y3))
 | 0 => fun _ _ _ _ r h => by simp [qa5.l0] at h
 | k + 1 => by
  have ih0 := qa5.mono_l k
  intro y0 y1 y2 y3
  unfold qa5.l0
  repeat' first
  | (with_reducible exact ih0 _ _ _ _)
  | (with_reducible exact LeO.refl _)
  | (with_reducible exact LeO.none _)
  | (with_reducible refine LeO.ite ?_ ?_)
  | (with_reducible refine LeO.bind ?_ (fun _ => ?_))
  | exact ih0 _ _ _ _
  | exact LeO.none _
  | refine LeO.ite ?_ ?_
  | refine LeO.bind ?_ (fun _ => ?_)
theorem qa5.mono : ∀ a0 k, LeO (qa5.f k a0) (qa5.f (k + 1) a0) := by
 intro a0 k
 have ih0 := qa5.mono_l k
 unfold qa5.f
 repeat' first
   | (with_reducible exact ih0 _ _ _ _)
   | (with_reducible exact LeO.refl _)
   | (with_reducible exact LeO.none _)
   | (with_reducible refine LeO.ite ?_ ?_)
   | (with_reducible refine LeO.bind ?_ (fun _ => ?_))
   | exact ih0 _ _ _ _
   | exact LeO.none _
   | refine LeO.ite ?_ ?_
   | refine LeO.bind ?_ (fun _ => ?_)
set_option maxHeartbeats 8000000 in
set_option maxRecDepth 100000 in
theorem qa5.calls (k : Nat) (A0 : Option Addr) (c0 : Nat) (l0 : List Int) (r : Int) (w : World) (hr0 : Kd.C (Kd.int .i64) w A0 l0.length l0) (hc0 : l0.length ≤ c0) (h : qa5.f k l0 = some r) :
  Calls Try.prog 97 #[.slice A0 l0.length c0] w fun e w' => e = .returned (.int .i64 r) ∧ qbz w w' := by
 have HR0 := qaa.mk hr0
 have HC0 := qaa.mk hc0
 clear hr0 hc0
 have H : (qa5.l0 k 0 l0 (l0.length : Int) 0) = some r := h
 clear h
 have H' := qaa.mk H
 clear H
 go_enter Try.func97, Try.ntmps97
 go_wp2
 go_loopg [3, 8] k (fun kq v3 v8 w' => ∃ (x3_1 : Int) (x8_1 : Int), v3 = .int .i64 x3_1 ∧ v8 = .int .i64 x8_1 ∧ qaa (qa5.l0 kq x3_1 l0 (l0.length : Int) x8_1 = some r) ∧ qaa (kq ≤ k) ∧ qbz w w')
 case atStart => exact ⟨(0), (0), (by first | rfl | (simp; done) | (simp [*]; done)), (by first | rfl | (simp; done) | (simp [*]; done)), H', ⟨Nat.le_refl _⟩, by repeat (first | exact qbz.refl _ | apply qbz.step)⟩
 case round =>
  clear H'
  obtain ⟨x3_1, x8_1, rfl, rfl, HA, HK1, ⟨m1, rfl⟩⟩ := hrel
  cases gk with
  | zero => exact absurd HA.out (by simp [qa5.l0])
  | succ k1 =>
   have H := HA.out
   clear HA
   simp only [qa5.l0] at H
   by_cases c2 : x8_1 < (l0.length : Int)
   ·
    rw [if_pos c2] at H; have c2b0 : decide (x8_1 < (l0.length : Int)) = true := decide_eq_true c2; clear c2
    by_cases c3 : 0 ≤ x8_1
    ·
     rw [if_pos c3] at H; have c3b0 : decide (0 ≤ x8_1) = true := decide_eq_true c3; clear c3
     by_cases c4 : x8_1 < (l0.length : Int)
     ·
      rw [if_pos c4] at H; have c4b0 : decide (x8_1 < (l0.length : Int)) = true := decide_eq_true c4; clear c4; have H' := qaa.mk H; clear H; have p132 : 0 ≤ (x8_1 : Int) := of_decide_eq_true (by first | (with_reducible assumption) | assumption); have q132 : x8_1 < (l0.length : Int) := of_decide_eq_true (by first | (with_reducible assumption) | assumption); obtain ⟨qDn, e132, qxi⟩ := Kd.at_int HR0.out x8_1 p132 q132; cases e132; replace p132 := eq_true p132; replace q132 := eq_true q132
      go_wp2
      go_roundg k1
      case measure => have := HK1.out; omega
      case rel => exact ⟨(wrap64 (x3_1 + (rd l0 x8_1))), (wrap64 (x8_1 + 1)), (by first | rfl | (simp; done) | (simp [*]; done)), (by first | rfl | (simp; done) | (simp [*]; done)), H', ⟨by have := HK1.out; omega⟩, by repeat (first | exact qbz.refl _ | apply qbz.step)⟩
     rw [if_neg c4] at H
     exact absurd H (by simp)
    rw [if_neg c3] at H
    exact absurd H (by simp)
   rw [if_neg c2] at H
   have c2b0 : decide (x8_1 < (l0.length : Int)) = false := decide_eq_false c2
   clear c2
   obtain rfl := Option.some.inj H
   go_wp2
   go_ret
   exact ⟨by first | rfl | (simp; done) | (simp [*]; done), by repeat (first | exact qbz.refl _ | apply qbz.step)⟩
end Go.Proofs.Ytmhomdohhihlcaa.P
namespace Go.Proofs.Ytmhomdohhihlcaa.P
open Go.RowKit Go.Proofs.YtmhomdohhihlcaaW.PrintWords Go.Proofs.YtmhomdohhihlcaaW.PrintLast Go.Proofs.YtmhomdohhihlcaaW.PrintMore
def qeJ.f (a b : Int) : Option Int := some a
def qev.f (a b : Int) : Option Int := some b
theorem qeJ.calls (a b r : Int) (w : World) (h : qeJ.f a b = some r) :
  Calls Try.prog 68 #[.agg #[.int .i64 a, .int .i64 b]] w fun e w' => e = .returned (.int .i64 r) ∧ Below w.heap.size w w' := by
 unfold qeJ.f at h
 injection h with h
 subst h
 have hu25 := Try.underlying25
 go_enter Try.func68, Try.ntmps68
 go_wp2
 go_ret
 exact ⟨rfl, (Below.refl _ w).alloc (Nat.le_refl _) _⟩
theorem qev.calls (a b r : Int) (w : World) (h : qev.f a b = some r) :
  Calls Try.prog 69 #[.agg #[.int .i64 a, .int .i64 b]] w fun e w' => e = .returned (.int .i64 r) ∧ Below w.heap.size w w' := by
 unfold qev.f at h
 injection h with h
 subst h
 have hu25 := Try.underlying25
 go_enter Try.func69, Try.ntmps69
 go_wp2
 go_ret
 exact ⟨rfl, (Below.refl _ w).alloc (Nat.le_refl _) _⟩
end Go.Proofs.Ytmhomdohhihlcaa.P
namespace Go.Proofs.Ytmhomdohhihlcaa.P
open Go.RowKit Go.Proofs.YtmhomdohhihlcaaW.PrintWords Go.Proofs.YtmhomdohhihlcaaW.PrintLast Go.Proofs.YtmhomdohhihlcaaW.PrintMore
attribute [local go_sem] qb7 qb6 qcr qcq qbR qbS qb8 qb4
def qaZ.l0 : Nat → List (List (S25)) → Int → List Int → List Int → Int → Int → Option (Int)
 | 0, _, _, _, _, _, _ => none
 | k + 1, x2, x3, x9, x12, x13, x14 => if x14 < x13 then (if 0 ≤ x14 then (if x14 < (x12.length : Int) then (if x14 < (x2.length : Int) then (if 0 ≤ x3 then (if x3 < ((qcU x2 x14).length : Int) then ((qeJ.f ((qby (qcU x2 x14) x3).f0) ((qby (qcU x2 x14) x3).f1)).bind fun t137 => (if x9.length < 17592186044416 then (qaZ.l0 k x2 x3 (x9 ++ [wrap64 ((rd x12 x14) * t137)]) x12 x13 (wrap64 (x14 + 1))) else (none))) else (none)) else (none)) else (none)) else (none)) else (none)) else ((qa5.f k x9).bind fun t141 => (some t141))
def qaZ.f (k : Nat) (a0_0 : Int) (l1 : List Int) (l2 : List (List (S25))) (a3 : Int) : Option (Int) := qaZ.l0 k l2 a3 ([] : List Int) l1 (l1.length : Int) 0
theorem qaZ.mono_l : ∀ k, (∀ y0 y1 y2 y3 y4 y5, LeO (qaZ.l0 k y0 y1 y2 y3 y4 y5) (qaZ.l0 (k + 1) y0 y1 y2 y3 y4 y5))
 | 0 => fun _ _ _ _ _ _ r h => by simp [qaZ.l0] at h
 | k + 1 => by
  have ih0 := qaZ.mono_l k
  intro y0 y1 y2 y3 y4 y5
  unfold qaZ.l0
  repeat' first
  | (with_reducible exact ih0 _ _ _ _ _ _)
  | (with_reducible exact qa5.mono _ _)
  | (with_reducible exact LeO.refl _)
  | (with_reducible exact LeO.none _)
  | (with_reducible refine LeO.ite ?_ ?_)
  | (with_reducible refine LeO.bind ?_ (fun _ => ?_))
  | exact ih0 _ _ _ _ _ _
  | exact qa5.mono _ _
  | exact LeO.none _
  | refine LeO.ite ?_ ?_
  | refine LeO.bind ?_ (fun _ => ?_)
theorem qaZ.mono : ∀ a0 a1 a2 a3 k, LeO (qaZ.f k a0 a1 a2 a3) (qaZ.f (k + 1) a0 a1 a2 a3) := by
 intro a0 a1 a2 a3 k
 have ih0 := qaZ.mono_l k
 unfold qaZ.f
 repeat' first
   | (with_reducible exact ih0 _ _ _ _ _ _)
   | (with_reducible exact qa5.mono _ _)
   | (with_reducible exact LeO.refl _)
   | (with_reducible exact LeO.none _)
   | (with_reducible refine LeO.ite ?_ ?_)
   | (with_reducible refine LeO.bind ?_ (fun _ => ?_))
   | exact ih0 _ _ _ _ _ _
   | exact qa5.mono _ _
   | exact LeO.none _
   | refine LeO.ite ?_ ?_
   | refine LeO.bind ?_ (fun _ => ?_)
def qaZ.T5 : Bool × List (List Nat × List Nat) := (true, [([], []), ([], []), ([], []), ([2], [2]), ([], []), ([], []), ([4, 5], [4, 5]), ([6], [6]), ([], []), ([7, 8], [7, 8]), ([9], [9]), ([3, 10], [3, 10]), ([1, 11], [1, 11]), ([12], [12]), ([0, 13, 11], [0, 13]), ([14, 14, 0, 1, 2, 3, 4, 5, 6, 7, 8, 9, 10, 11, 12, 13, 14], [0, 14])])
def qaZ.B5 : List Nat := [0, 0, 0, 4, 0, 0, 48, 112, 0, 496, 1008, 2044, 4094, 8190, 16383, 32767]
theorem qaZ.tab5 : rtab .any (qjY Try.f71 5) = qaZ.T5 := by kernel_rfl
theorem qaZ.bits5 : qfx qaZ.T5.2 qaZ.B5 = true := by kernel_rfl
set_option maxHeartbeats 8000000 in
set_option maxRecDepth 100000 in
theorem qaZ.calls (k : Nat) (a0_0 : Int) (A1 : Option Addr) (c1 : Nat) (l1 : List Int) (A2 : Option Addr) (c2 : Nat) (l2 : List (List (S25))) (a3 : Int) (r : Int) (w : World) (hr1 : Kd.C (Kd.int .i64) w A1 l1.length l1) (hc1 : l1.length ≤ c1) (hr2 : Kd.C (Kd.slice 25 k25) w A2 l2.length l2) (hc2 : l2.length ≤ c2) (h : qaZ.f k a0_0 l1 l2 a3 = some r) :
  Calls Try.prog 71 #[.agg #[.func (.func 68) #[] #[]], .slice A1 l1.length c1, .slice A2 l2.length c2, .int .i64 a3] w fun e w' => e = .returned (.int .i64 r) ∧ Below w.heap.size w w' := by
 have qut := Try.underlying104
 have hu25 := Try.underlying25
 have HR1 := qaa.mk hr1
 have HC1 := qaa.mk hc1
 clear hr1 hc1
 have HR2 := qaa.mk hr2
 have HC2 := qaa.mk hc2
 clear hr2 hc2
 have HB := qaa.mk (Below.refl w.heap.size w)
 have H : (qaZ.l0 k l2 a3 ([] : List Int) l1 (l1.length : Int) 0) = some r := h
 clear h
 have H' := qaa.mk H
 clear H
 go_enter Try.func71, Try.ntmps71
 go_wp2_with (first | ((with_reducible refine qaN (N := 4) rfl ?_); refine qa9 ?hg (N := 4) ?hd (cs := #[.func (.func 68) #[] #[]]) (t := 104) ?hr ?_; (case hd => rfl); (case hg => rfl); (case hr => first | (go_simp; done) | (go_simp; rfl)); intro qgs hg w5 hbox hb; have n0_ := qaa.mk (qar (by repeat (first | (with_reducible first | exact HB.out | apply qaf | apply qad | apply qah) | exact HB.out)) hb); have n1_ := qaa.mk (hbox); have n2_ := qaa.mk ((by rw [hg]; exact (qam (by repeat (first | (with_reducible first | exact HB.out | apply qaf | apply qad | apply qah) | exact HB.out))) : w.heap.size ≤ qgs)); have n3_ := qaa.mk ((by rw [hg]; exact (qam (by repeat (first | (with_reducible first | exact HB.out | apply qaf | apply qad | apply qah) | exact HB.out))) : w.heap.size ≤ qgs)); clear HB; have HB := n0_; have qcK := n1_; have quu := n2_; have qgt := n3_; clear n0_ n1_ n2_ n3_; clear hb hbox hg))
 go_loopg [9, 14] k (fun kq v9 v14 w' => ∃ (x9_1 : List Int) (qbA : Int), v14 = .int .i64 qbA ∧ qaa (qaZ.l0 kq l2 a3 x9_1 l1 (l1.length : Int) qbA = some r) ∧ qaa (kq ≤ k) ∧ qaa (Kd.R (Kd.int .i64) 3 w' w.heap.size (fun _ => True) v9 x9_1) ∧ qaa (w'.heap[qgs]? = some (.cells #[.func (.func 68) #[] #[]] 104 (0, 0))) ∧ qaa (Below w.heap.size w w'))
 case atStart => exact ⟨(([] : List Int)), (0), (by first | rfl | (simp; done) | (simp [*]; done)), H', ⟨Nat.le_refl _⟩, ⟨by first | exact Kd.R_nil _ _ _ _ _ | exact Kd.N_nil _ _ _ _ _ | exact Kd.V_nil _ _ _ _ _ | exact Kd.Q_nil _ _ _ _ _ | exact Kd.S_nil _ _ _ _ _⟩, ⟨by (with_reducible repeat (first | refine qac ?_ _ | refine qae ?_ | refine qab ?_ _)); exact qcK.out⟩, ⟨by repeat (first | (with_reducible first | exact HB.out | apply qaf | apply qad | apply qah | refine qag ?_ qgt.out) | exact HB.out)⟩⟩
 case round =>
  clear H'
  try clear c1
  try clear c2
  try clear p2
  obtain ⟨x9_1, qbA, rfl, HA, HK1, HO_9, qcK, HB⟩ := hrel
  cases gk with
  | zero => exact absurd HA.out (by simp [qaZ.l0])
  | succ k1 =>
   have H := HA.out
   clear HA
   simp only [qaZ.l0] at H
   by_cases c6 : qbA < (l1.length : Int)
   ·
    rw [if_pos c6] at H; have c6b0 : decide (qbA < (l1.length : Int)) = true := decide_eq_true c6; clear c6
    by_cases c7 : 0 ≤ qbA
    ·
     rw [if_pos c7] at H; have c7b0 : decide (0 ≤ qbA) = true := decide_eq_true c7; clear c7
     by_cases c8 : qbA < (l1.length : Int)
     ·
      rw [if_pos c8] at H; have c8b0 : decide (qbA < (l1.length : Int)) = true := decide_eq_true c8; clear c8
      by_cases c9 : qbA < (l2.length : Int)
      ·
       rw [if_pos c9] at H; have c9b0 : decide (qbA < (l2.length : Int)) = true := decide_eq_true c9; clear c9
       by_cases c10 : 0 ≤ a3
       ·
        rw [if_pos c10] at H; have c10b0 : decide (0 ≤ a3) = true := decide_eq_true c10; clear c10
        by_cases c11 : a3 < ((qcU l2 qbA).length : Int)
        ·
         rw [if_pos c11] at H; have c11b0 : decide (a3 < ((qcU l2 qbA).length : Int)) = true := decide_eq_true c11; clear c11; replace H := Option.bind_eq_some_iff.mp H; obtain ⟨t137, A120, H⟩ := H; replace H : (if x9_1.length < 17592186044416 then (qaZ.l0 k1 l2 a3 (x9_1 ++ [wrap64 ((rd l1 qbA) * t137)]) l1 (l1.length : Int) (wrap64 (qbA + 1))) else (none)) = some r := H; have A12 := qaa.mk A120; clear A120
         by_cases c13 : x9_1.length < 17592186044416
         ·
          rw [if_pos c13] at H; have qph := qaa.mk c13; clear c13; obtain ⟨y138, qhg⟩ : ∃ y_ : List Int, y_ = (x9_1 ++ [wrap64 ((rd l1 qbA) * t137)]) := ⟨_, rfl⟩
          replace H : (qaZ.l0 k1 l2 a3 y138 l1 (l1.length : Int) (wrap64 (qbA + 1))) = some r := by first | (rw [qhg]; with_reducible exact H) | (have H2_ := (Option.bind_some _ _).symm.trans H; rw [qhg]; with_reducible exact H2_) | (have H2_ := (Option.bind_some _ _).symm.trans H; with_reducible exact H2_) | with_reducible exact H | (rw [qhg]; exact H) | exact H
          have qpi := qaa.mk qhg; clear qhg; have H' := qaa.mk H; clear H; have p134 : 0 ≤ (qbA : Int) := of_decide_eq_true (by first | (with_reducible assumption) | assumption); have q134 : qbA < (l1.length : Int) := of_decide_eq_true (by first | (with_reducible assumption) | assumption); obtain ⟨quv, e134, qhn⟩ := Kd.at_int HR1.out qbA p134 q134; cases e134; replace qhn := (HB.out.cell (World.block_lt_of_cell? w _ qhn)).trans qhn; replace p134 := eq_true p134; replace q134 := eq_true q134
          try go_wp2
          have n0_ := qaa.mk (Kd.R_drew HO_9.out); have n1_ := qaa.mk (qae qcK.out); have n2_ := qaa.mk (qah HB.out); clear HO_9 qcK HB; have HO_9 := n0_; have qcK := n1_; have HB := n2_; clear n0_ n1_ n2_; have p135 : 0 ≤ (qbA : Int) := of_decide_eq_true (by first | (with_reducible assumption) | assumption); have q135 : qbA < (l2.length : Int) := of_decide_eq_true (by first | (with_reducible assumption) | assumption); obtain ⟨qpj, qtq, qnA, e135, qfm, qi2, qi3⟩ := qo2 HR2.out qbA p135 q135; have qdk := qfm; cases e135; replace qfm := (HB.out.cell (World.block_lt_of_cell? w _ qfm)).trans qfm; have qi4 := qaa.mk qi3; have qr6 := qaa.mk qi2; clear qi3 qi2; replace p135 := eq_true p135; replace q135 := eq_true q135; have p136 : 0 ≤ (a3 : Int) := of_decide_eq_true (by first | (with_reducible assumption) | assumption); have q136 : a3 < ((qcU l2 qbA).length : Int) := of_decide_eq_true (by first | (with_reducible assumption) | assumption); obtain ⟨qhW, e136, qfn, qfo⟩ := qhc qi4.out a3 p136 q136; have qdl := qfo; have qdm := qfn; cases e136; replace qfn := (HB.out.cell (World.block_lt_of_cell? w _ qfn)).trans qfn; replace qfo := (HB.out.cell (World.block_lt_of_cell? w _ qfo)).trans qfo; replace p136 := eq_true p136; replace q136 := eq_true q136; refine qgB (n := 16) (S := fun w' => w'.cell? ⟨qgs, 0, none⟩ = some (.func (.func 68) #[] #[]) ∧ w'.cell? (qpj.add (qbA).toNat) = some (.slice (some qhW) (qcU l2 qbA).length qnA) ∧ w'.cell? (qhW.add ((a3).toNat * 2)) = some (.int .i64 ((qby (qcU l2 qbA) a3).f0)) ∧ w'.cell? ⟨(qhW.add ((a3).toNat * 2)).block, (qhW.add ((a3).toNat * 2)).off + 1, none⟩ = some (.int .i64 ((qby (qcU l2 qbA) a3).f1))) (ds := []) #[false, false, false, false, false, false, false, false, false, false, false, false, false, false, false, false] (by kernel_rfl) rfl rfl ⟨(qai qcK.out 0).trans rfl, ((HB.out.cell (World.block_lt_of_cell? w _ qdk)).trans qdk), ((HB.out.cell (World.block_lt_of_cell? w _ qdm)).trans qdm), ((HB.out.cell (World.block_lt_of_cell? w _ qdl)).trans qdl)⟩ (fun hHeld => ?_); refine qe5 qaZ.tab5 qaZ.bits5 (fun HT_ HW_ => ?_)
          generalize wr.drew = w14 at HO_9 qcK HB qi4 qfm qfn qfo hHeld ⊢
          refine qbp (i := 0) (N := some 19) (v := ?_) (a' := ?_) #[true, false, false, false, false, false, false, false, false, false, false, false, false, false, false, false] rfl rfl (qbe HT_.out (by kernel_rfl)) (fun _ _ _ h => h) (Or.inl ⟨by rfl, ?_⟩) ?_ ?_
          rotate_left
          ·
           intro w'
           go_simp
           with_reducible rfl
          rotate_left
          ·
           simp only [Act.put, List.setIfInBounds_toArray, List.set_cons_zero, List.set_cons_succ, qaM, qaR]
           rfl
          refine qbp (i := 1) (N := some 20) (v := ?_) (a' := ?_) #[true, true, false, false, false, false, false, false, false, false, false, false, false, false, false, false] rfl rfl (qbe HT_.out (by kernel_rfl)) (fun _ _ _ h => h) (Or.inl ⟨by rfl, ?_⟩) ?_ ?_
          rotate_left
          ·
           intro w'
           go_simp
           with_reducible rfl
          rotate_left
          ·
           simp only [Act.put, List.setIfInBounds_toArray, List.set_cons_zero, List.set_cons_succ, qaM, qaR]
           rfl
          refine qbp (i := 2) (N := some 21) (v := ?_) (a' := ?_) #[true, true, true, false, false, false, false, false, false, false, false, false, false, false, false, false] rfl rfl (qbe HT_.out (by kernel_rfl)) (fun _ _ _ h => h) (Or.inl ⟨by rfl, ?_⟩) ?_ ?_
          rotate_left
          ·
           intro w'
           go_simp
           with_reducible rfl
          rotate_left
          ·
           simp only [Act.put, List.setIfInBounds_toArray, List.set_cons_zero, List.set_cons_succ, qaM, qaR]
           rfl
          refine qbp (i := 4) (N := some 23) (v := ?_) (a' := ?_) #[true, true, true, false, true, false, false, false, false, false, false, false, false, false, false, false] rfl rfl (qbe HT_.out (by kernel_rfl)) (fun _ _ _ h => h) (Or.inl ⟨by rfl, ?_⟩) ?_ ?_
          rotate_left
          ·
           intro w'
           go_simp
           with_reducible rfl
          rotate_left
          ·
           simp only [Act.put, List.setIfInBounds_toArray, List.set_cons_zero, List.set_cons_succ, qaM, qaR]
           rfl
          refine qbp (i := 5) (N := some 24) (v := ?_) (a' := ?_) #[true, true, true, false, true, true, false, false, false, false, false, false, false, false, false, false] rfl rfl (qbe HT_.out (by kernel_rfl)) (fun _ _ _ h => h) (Or.inl ⟨by rfl, ?_⟩) ?_ ?_
          rotate_left
          ·
           intro w'
           go_simp
           with_reducible rfl
          rotate_left
          ·
           simp only [Act.put, List.setIfInBounds_toArray, List.set_cons_zero, List.set_cons_succ, qaM, qaR]
           rfl
          refine qbp (i := 6) (N := some 25) (v := ?_) (a' := ?_) #[true, true, true, false, true, true, true, false, false, false, false, false, false, false, false, false] rfl rfl (qbe HT_.out (by kernel_rfl)) (fun _ _ _ h => h) (Or.inl ⟨by rfl, ?_⟩) ?_ ?_
          rotate_left
          ·
           intro w'
           go_simp
           with_reducible rfl
          rotate_left
          ·
           simp only [Act.put, List.setIfInBounds_toArray, List.set_cons_zero, List.set_cons_succ, qaM, qaR]
           rfl
          refine qbp (i := 8) (N := some 27) (v := ?_) (a' := ?_) #[true, true, true, false, true, true, true, false, true, false, false, false, false, false, false, false] rfl rfl (qbe HT_.out (by kernel_rfl)) (fun _ _ _ h => h) (Or.inl ⟨by rfl, ?_⟩) ?_ ?_
          rotate_left
          ·
           intro w'
           go_simp
           with_reducible rfl
          rotate_left
          ·
           simp only [Act.put, List.setIfInBounds_toArray, List.set_cons_zero, List.set_cons_succ, qaM, qaR]
           rfl
          refine take_ (i := 3) (N := some 22) (v := ?_) (a' := ?_) #[true, true, true, true, true, true, true, false, true, false, false, false, false, false, false, false] rfl rfl (qcJ HT_.out HW_.out (by kernel_rfl)) (fun _ _ _ h => h) (Or.inl ⟨by rfl, ?_⟩) hHeld ?_ ?_
          rotate_left
          ·
           rintro w' ⟨s0, s1, s2, s3⟩
           go_simp
           with_reducible rfl
          rotate_left
          ·
           simp only [Act.put, List.setIfInBounds_toArray, List.set_cons_zero, List.set_cons_succ, qaM, qaR]
           rfl
          refine take_ (i := 7) (N := some 26) (v := ?_) (a' := ?_) #[true, true, true, true, true, true, true, true, true, false, false, false, false, false, false, false] rfl rfl (qcJ HT_.out HW_.out (by kernel_rfl)) (fun _ _ _ h => h) (Or.inl ⟨by rfl, ?_⟩) hHeld ?_ ?_
          rotate_left
          ·
           rintro w' ⟨s0, s1, s2, s3⟩
           go_simp
           with_reducible rfl
          rotate_left
          ·
           simp only [Act.put, List.setIfInBounds_toArray, List.set_cons_zero, List.set_cons_succ, qaM, qaR]
           rfl
          refine qbp (i := 9) (N := some 28) (v := ?_) (a' := ?_) #[true, true, true, true, true, true, true, true, true, true, false, false, false, false, false, false] rfl rfl (qbe HT_.out (by kernel_rfl)) (fun _ _ _ h => h) (Or.inl ⟨by rfl, ?_⟩) ?_ ?_
          rotate_left
          ·
           intro w'
           go_simp
           with_reducible rfl
          rotate_left
          ·
           simp only [Act.put, List.setIfInBounds_toArray, List.set_cons_zero, List.set_cons_succ, qaM, qaR]
           rfl
          refine take_ (i := 10) (N := some 29) (v := ?_) (a' := ?_) #[true, true, true, true, true, true, true, true, true, true, true, false, false, false, false, false] rfl rfl (qcJ HT_.out HW_.out (by kernel_rfl)) (fun _ _ _ h => h) (Or.inl ⟨by rfl, ?_⟩) hHeld ?_ ?_
          rotate_left
          ·
           rintro w' ⟨s0, s1, s2, s3⟩
           go_simp
           with_reducible rfl
          rotate_left
          ·
           simp only [Act.put, List.setIfInBounds_toArray, List.set_cons_zero, List.set_cons_succ, qaM, qaR]
           rfl
          refine one_ (i := 11) (N := some 30) #[true, true, true, true, true, true, true, true, true, true, true, true, false, false, false, false] rfl rfl (qeg HT_.out (by kernel_rfl)) (by decide) (fun K hK => ?_); refine qkY Try.func68 (by kernel_rfl) rfl #[.agg #[.int .i64 ((qby (qcU l2 qbA) a3).f0), .int .i64 ((qby (qcU l2 qbA) a3).f1)]] 22 (by rfl) rfl rfl rfl (by (try simp only [List.map_toArray, List.map_cons, List.map_nil]); first | done | rfl | (simp only [List.length_drop, List.length_take]; rfl)) ?_
          with_reducible refine (qeJ.calls ((qby (qcU l2 qbA) a3).f0) ((qby (qcU l2 qbA) a3).f1) t137 _ A12.out).mono ?_
          rintro e w15 ⟨rfl, hb⟩; refine ⟨_, rfl, ?_⟩; have n0_ := qaa.mk (Kd.R_below (by (with_reducible repeat (first | apply Kd.R_alloc | apply Kd.R_drewN | apply Kd.R_drew)); exact HO_9.out) hb); have n1_ := qaa.mk (qan (g := qgs) (o := .cells #[.func (.func 68) #[] #[]] 104 (0, 0)) (by (with_reducible repeat (first | refine qac ?_ _ | refine qae ?_ | refine qab ?_ _)); exact qcK.out) hb); have n2_ := qaa.mk (qar (by repeat (first | (with_reducible first | exact HB.out | apply qaf | apply qad | apply qah | refine qag ?_ qgt.out) | exact HB.out)) hb); clear HO_9 qcK HB; have HO_9 := n0_; have qcK := n1_; have HB := n2_; clear n0_ n1_ n2_
          (try clear hb)
          (try clear hb2)
          (try clear hk)
          (try clear hi)
          refine hK.out _ _ ⟨(qai qcK.out 0).trans rfl, ((HB.out.cell (World.block_lt_of_cell? w _ qdk)).trans qdk), ((HB.out.cell (World.block_lt_of_cell? w _ qdm)).trans qdm), ((HB.out.cell (World.block_lt_of_cell? w _ qdl)).trans qdl)⟩ (fun hHeld => ?_); clear hK K; refine qd7 (a' := ?_) ?_ ?_
          rotate_left
          ·
           show Act.put _ (some 30) _ = _
           simp only [Act.put, List.setIfInBounds_toArray, List.set_cons_zero, List.set_cons_succ, qaM, qaR]
           rfl
          refine qbp (i := 12) (N := some 31) (v := ?_) (a' := ?_) #[true, true, true, true, true, true, true, true, true, true, true, true, true, false, false, false] rfl rfl (qbe HT_.out (by kernel_rfl)) (fun _ _ _ h => h) (Or.inl ⟨by rfl, ?_⟩) ?_ ?_
          rotate_left
          ·
           intro w'
           go_simp
           with_reducible rfl
          rotate_left
          ·
           simp only [Act.put, List.setIfInBounds_toArray, List.set_cons_zero, List.set_cons_succ, qaM, qaR]
           rfl
          refine one_ (i := 13) (N := some 32) #[true, true, true, true, true, true, true, true, true, true, true, true, true, true, false, false] rfl rfl (qeg HT_.out (by kernel_rfl)) (by decide) (fun K hK => ?_); refine qns (w1 := ?_) (v := ?_) (by rfl) rfl ?_ ?_
          rotate_left 2
          ·
           go_simp
           constructor
           ·
            rfl
           rfl
          refine hK.out _ _ ⟨(qai (qab qcK.out _) 0).trans rfl, (World.cell?_alloc_lt _ _ _ (World.block_lt_of_cell? _ _ (((HB.out.cell (World.block_lt_of_cell? w _ qdk)).trans qdk)))).trans (((HB.out.cell (World.block_lt_of_cell? w _ qdk)).trans qdk)), (World.cell?_alloc_lt _ _ _ (World.block_lt_of_cell? _ _ (((HB.out.cell (World.block_lt_of_cell? w _ qdm)).trans qdm)))).trans (((HB.out.cell (World.block_lt_of_cell? w _ qdm)).trans qdm)), (World.cell?_alloc_lt _ _ _ (World.block_lt_of_cell? _ _ (((HB.out.cell (World.block_lt_of_cell? w _ qdl)).trans qdl)))).trans (((HB.out.cell (World.block_lt_of_cell? w _ qdl)).trans qdl))⟩ (fun hHeld => ?_); clear hK K; refine qd7 (a' := ?_) ?_ ?_
          rotate_left
          ·
           show Act.put _ (some 32) _ = _
           simp only [Act.put, List.setIfInBounds_toArray, List.set_cons_zero, List.set_cons_succ, qaM, qaR]
           rfl
          refine one_ (i := 14) (N := some 33) #[true, true, true, true, true, true, true, true, true, true, true, true, true, true, true, false] rfl rfl (qeg HT_.out (by kernel_rfl)) (by decide) (fun K hK => ?_); refine Kd.R_append_step (Kd.int .i64) (w0 := w) w.heap.size (by rfl) (.tmp 19) (.tmp 32) 37 3 (.int .i64 0) 8 rfl Try.underlying37 qiw rfl (by decide) (by omega) u9 x9_1 (wrap64 ((rd l1 qbA) * t137)) [.int .i64 (wrap64 ((rd l1 qbA) * t137))] (fun _ => True) (fun _ => False) rfl rfl ?aP (fun _ hk => hk.elim) ?aF ?aO ?aB ?aS ?aL ?_
          (case aP => exact rfl)
          (case aB => exact (by repeat (first | (with_reducible first | exact HB.out | apply qaf | apply qad | apply qah | refine qag ?_ qgt.out) | exact HB.out)))
          (case aF => exact (fun _ _ => trivial))
          (case aO => exact (by (with_reducible repeat (first | apply Kd.R_alloc | apply Kd.R_drewN | apply Kd.R_drew)); exact HO_9.out))
          (case aS => exact (qam (by repeat (first | (with_reducible first | exact HB.out | apply qaf | apply qad | apply qah | refine qag ?_ qgt.out) | exact HB.out))))
          (case aL => have := qph.out; omega)
          intro v139 w16 ho hb hg hat; rw [← qpi.out] at ho; have n0_ := qaa.mk (qd6 (g := qgs) (o := .cells #[.func (.func 68) #[] #[]] 104 (0, 0)) (by (with_reducible repeat (first | refine qac ?_ _ | refine qae ?_ | refine qab ?_ _)); exact qcK.out) hg (Kd.R_ne HO_9.out qcK.out (by decide))); have n1_ := qaa.mk (hb); have n2_ := qaa.mk (ho); clear qcK HB HO_9; have qcK := n0_; have HB := n1_; have qpk := n2_; clear n0_ n1_ n2_ ho hb hg hat; refine hK.out _ _ ⟨(qai qcK.out 0).trans rfl, ((HB.out.cell (World.block_lt_of_cell? w _ qdk)).trans qdk), ((HB.out.cell (World.block_lt_of_cell? w _ qdm)).trans qdm), ((HB.out.cell (World.block_lt_of_cell? w _ qdl)).trans qdl)⟩ (fun hHeld => ?_); clear hK K; refine qd7 (a' := ?_) ?_ ?_
          rotate_left
          ·
           show Act.put _ (some 33) _ = _
           simp only [Act.put, List.setIfInBounds_toArray, List.set_cons_zero, List.set_cons_succ, qaM, qaR]
           rfl
          refine qbp (i := 15) (N := some 9) (v := ?_) (a' := ?_) #[true, true, true, true, true, true, true, true, true, true, true, true, true, true, true, true] rfl rfl (qbe HT_.out (by kernel_rfl)) (fun _ _ _ h => h) (Or.inl ⟨by rfl, ?_⟩) ?_ ?_
          rotate_left
          ·
           intro w'
           go_simp
           with_reducible rfl
          rotate_left
          ·
           simp only [Act.put, List.setIfInBounds_toArray, List.set_cons_zero, List.set_cons_succ, qaM, qaR]
           rfl
          refine qhv (qf8 HT_.out (by kernel_rfl)) ?_
          try go_wp2
          go_roundg k1
          case measure => have := HK1.out; omega
          case rel => exact ⟨(y138), (wrap64 (qbA + 1)), (by first | rfl | (simp; done) | (simp [*]; done)), H', ⟨by have := HK1.out; omega⟩, ⟨by (with_reducible repeat (first | apply Kd.R_alloc | apply Kd.R_drewN | apply Kd.R_drew)); exact qpk.out⟩, ⟨by (with_reducible repeat (first | refine qac ?_ _ | refine qae ?_ | refine qab ?_ _)); exact qcK.out⟩, ⟨by repeat (first | (with_reducible first | exact HB.out | apply qaf | apply qad | apply qah | refine qag ?_ qgt.out) | exact HB.out)⟩⟩
         rw [if_neg c13] at H
         exact absurd H (by simp)
        rw [if_neg c11] at H
        exact absurd H (by simp)
       rw [if_neg c10] at H
       exact absurd H (by simp)
      rw [if_neg c9] at H
      exact absurd H (by simp)
     rw [if_neg c8] at H
     exact absurd H (by simp)
    rw [if_neg c7] at H
    exact absurd H (by simp)
   rw [if_neg c6] at H
   have c6b0 : decide (qbA < (l1.length : Int)) = false := decide_eq_false c6
   clear c6
   replace H := Option.bind_eq_some_iff.mp H
   obtain ⟨t141, A170, H⟩ := H
   replace H : (some t141) = some r := H
   have A17 := qaa.mk A170
   clear A170
   obtain rfl := Option.some.inj H
   obtain ⟨Ao18, co18, eo18⟩ := Kd.R_slice HO_9.out
   subst eo18
   go_wp2_with (first | ((with_reducible refine qaK (f := 97) rfl ?_); refine qbm (some 36) rfl rfl Try.func97 (by kernel_rfl) rfl #[.slice Ao18 x9_1.length co18] rfl (by (try simp only [List.map_toArray, List.map_cons, List.map_nil]); first | done | rfl | (simp only [List.length_drop, List.length_take]; rfl)) ?_; (with_reducible refine (qa5.calls k1 _ _ x9_1 t141 _ ?side1 ?side2 A17.out).mono ?_); (case side1 => repeat (first | exact (Kd.R_reads' HO_9.out).2.2 | (with_reducible refine Kd.C_alloc ?_ _) | (with_reducible refine Kd.C_drewN ?_ _) | (with_reducible refine Kd.C_drew ?_))); (case side2 => exact (Kd.R_reads' HO_9.out).2.1); rintro e w' ⟨rfl, ⟨nd, rfl⟩⟩; refine ⟨_, rfl, ?_⟩))
   go_ret
   exact ⟨by first | rfl | (simp [qaG, qaH] <;> rfl) | (simp [*, qaG, qaH] <;> rfl), by repeat (first | (with_reducible first | exact HB.out | apply qaf | apply qad | apply qah | refine qag ?_ qgt.out) | exact HB.out)⟩
end Go.Proofs.Ytmhomdohhihlcaa.P
