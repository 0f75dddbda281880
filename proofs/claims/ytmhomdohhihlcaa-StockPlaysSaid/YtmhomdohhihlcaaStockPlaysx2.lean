/- What the statement StockPlays leans on, part 3 of 6: contracts of the program's functions; conditions: none. -/
import Derived.Maps.OwnSet
import Derived.DeepKeys4
import Derived.Deep.LoopGhost
import Derived.RangeFuncRecord
import Derived.RangeFuncNested
import Derived.RangeFuncBound
import Derived.RangeFuncCalls
import Derived.RangeFuncLeaves
import Derived.Shelf.Abstract
import Derived.Shelf.RegionOpen
import Derived.WalkKit
import Derived.OwnWalkIn
import Derived.TacticsInMore
import Derived.LoopNIn
import Derived.LoopIn
import Derived.Sort.LoopGhostIn
import Derived.Sort.CutIn
import Derived.ArgAppend
import Derived.Deep.RegionHeld3
import Derived.StillTailTactics
import Derived.Deep.DeepCutAuto
import Derived.OpenShut
import Derived.Laws.EntriesVeiled
import Derived.Test.YtmhomdohhihlcaaStockPlaysx0
import Derived.Test.YtmhomdohhihlcaaStockPlaysx1
set_option linter.unusedVariables false
set_option linter.unusedSimpArgs false
set_option linter.constructorNameAsVariable false
namespace Go.Proofs.Ytmhomdohhihlcaa.P
open Go.RowKit Go.Proofs.YtmhomdohhihlcaaW.PrintWords Go.Proofs.YtmhomdohhihlcaaW.PrintLast Go.Proofs.YtmhomdohhihlcaaW.PrintMore
attribute [local go_sem] qbT qbR qb7 qb6 qbH qbG qbS qbU
def qaF.l0 : Nat → List Int → List Int → List Int → List Int → Int → List Int → List Int → List Int → Int → Int → Option (List Int)
 | 0, _, _, _, _, _, _, _, _, _, _ => none
 | k + 1, x1, x2, x7, x8, x9, qkr, qks, qkt, qku, qkv => if x9 < (x1.length : Int) then (if 0 ≤ x9 then ((qbl.f k qkr qks qkt qku qkv x8 (rd x1 x9)).bind fun t450 => ((qby.f k qkr qks qkt qku qkv t450).bind fun t453 => (if x7.length < 17592186044416 then (if x9 < (x2.length : Int) then ((qaR.f k qkr qks qkt qku qkv t450 (rd x2 x9)).bind fun t458 => (qaF.l0 k x1 x2 (x7 ++ [t453]) t458 (wrap64 (x9 + 1)) qkr qks qkt qku qkv)) else (none)) else (none)))) else (none)) else (some x7)
def qaF.f (k : Nat) (l0_0 : List Int) (l0_1 : List Int) (l0_2 : List Int) (a0_3 : Int) (a0_4 : Int) (l1 : List Int) (l2 : List Int) : Option (List Int) := qaF.l0 k l1 l2 ([] : List Int) l0_0 0 l0_0 l0_1 l0_2 a0_3 a0_4
def qaF.T6 : Bool × List (List Nat × List Nat) := (true, [([], []), ([], []), ([], []), ([], []), ([2, 3], [2, 3]), ([4], [4]), ([0, 1, 5], [0, 1, 5]), ([6, 6, 0, 1, 2, 3, 4, 5, 6], [6])])
def qaF.B6 : List Nat := [0, 0, 0, 0, 12, 28, 63, 127]
theorem qaF.tab6 : rtab .any (qjS Try.f81 6) = qaF.T6 := by kernel_rfl
theorem qaF.bits6 : qfC qaF.T6.2 qaF.B6 = true := by kernel_rfl
def qaF.T8 : Bool × List (List Nat × List Nat) := (true, [([], []), ([], []), ([], []), ([], []), ([2, 3], [2, 3]), ([4], [4]), ([0, 1, 5], [0, 1, 5]), ([6, 6, 0, 1, 2, 3, 4, 5, 6], [6])])
def qaF.B8 : List Nat := [0, 0, 0, 0, 12, 28, 63, 127]
theorem qaF.tab8 : rtab .any (qjS Try.f81 8) = qaF.T8 := by kernel_rfl
theorem qaF.bits8 : qfC qaF.T8.2 qaF.B8 = true := by kernel_rfl
set_option maxHeartbeats 8000000 in
set_option maxRecDepth 100000 in
theorem qaF.calls (k : Nat) (P0_0_ : Nat → Prop) (A0_0 : Option Addr) (c0_0 : Nat) (l0_0 : List Int) (A0_1 : Option Addr) (c0_1 : Nat) (l0_1 : List Int) (A0_2 : Option Addr) (c0_2 : Nat) (l0_2 : List Int) (a0_3 : Int) (a0_4 : Int) (A1 : Option Addr) (c1 : Nat) (l1 : List Int) (A2 : Option Addr) (c2 : Nat) (l2 : List Int) (r : List Int) (w : World) (qvg : Kd.V (Kd.int .i64) 3 w w.heap.size (fun k_ => P0_0_ k_) (.slice A0_0 l0_0.length c0_0) l0_0) (qcH : Kd.C (Kd.int .i64) w A0_1 l0_1.length l0_1) (qcL : l0_1.length ≤ c0_1) (qcI : Kd.C (Kd.int .i64) w A0_2 l0_2.length l0_2) (qcM : l0_2.length ≤ c0_2) (hr1 : Kd.C (Kd.int .i64) w A1 l1.length l1) (hc1 : l1.length ≤ c1) (hr2 : Kd.C (Kd.int .i64) w A2 l2.length l2) (hc2 : l2.length ≤ c2) (h : qaF.f k l0_0 l0_1 l0_2 a0_3 a0_4 l1 l2 = some r) :
  Calls Try.prog 81 #[.agg #[.slice A0_0 l0_0.length c0_0, .slice A0_1 l0_1.length c0_1, .slice A0_2 l0_2.length c0_2, .int .i64 a0_3, .int .i64 a0_4], .slice A1 l1.length c1, .slice A2 l2.length c2] w fun e w' => ∃ v0_ : Value, e = .returned (v0_) ∧ Kd.R (Kd.int .i64) 3 w' w.heap.size (fun k_ => (w.heap.size ≤ k_)) v0_ r ∧ Below w.heap.size w w' := by
 have hu39 := Try.underlying39
 have qlA := qaa.mk (show Kd.V (Kd.int .i64) 3 w w.heap.size (fun k_ => (P0_0_ k_ ∨ w.heap.size ≤ k_)) (.slice A0_0 l0_0.length c0_0) l0_0 from Kd.V_mono qvg (fun k_ hk => .inl hk))
 have qb2 := qaa.mk qcH
 have qcj := qaa.mk qcL
 clear qcH qcL
 have qb8 := qaa.mk qcI
 have qck := qaa.mk qcM
 clear qcI qcM
 have HR1 := qaa.mk hr1
 have HC1 := qaa.mk hc1
 clear hr1 hc1
 have HR2 := qaa.mk hr2
 have HC2 := qaa.mk hc2
 clear hr2 hc2
 have HB := qaa.mk (Below.refl w.heap.size w)
 have H : (qaF.l0 k l1 l2 ([] : List Int) l0_0 0 l0_0 l0_1 l0_2 a0_3 a0_4) = some r := h
 clear h
 have H' := qaa.mk H
 clear H
 go_enter Try.func81, Try.ntmps81
 go_wp2_with (first | ((with_reducible refine qaN (N := 3) rfl ?_); refine qba ?hg (N := 3) ?hd (cs := #[.slice A0_0 l0_0.length c0_0, .slice A0_1 l0_1.length c0_1, .slice A0_2 l0_2.length c0_2, .int .i64 a0_3, .int .i64 a0_4]) (t := 39) ?hr ?_; (case hd => rfl); (case hg => rfl); (case hr => first | (go_simp; done) | (go_simp; rfl)); intro qdp hg w4 hbox hb; have n0_ := qaa.mk (Kd.V_below (Kd.V_elderB (by (with_reducible repeat (first | apply Kd.V_alloc | apply Kd.V_drewN | apply Kd.V_drew)); exact qlA.out) qdp (Nat.le_of_eq hg.symm)) hb); have n1_ := qaa.mk (qap (by repeat (first | (with_reducible first | exact HB.out | apply qac | apply qab | apply qag) | exact HB.out)) hb); have n2_ := qaa.mk (hbox); have n3_ := qaa.mk ((by rw [hg]; exact (qal (by repeat (first | (with_reducible first | exact HB.out | apply qac | apply qab | apply qag) | exact HB.out))) : w.heap.size ≤ qdp)); have n4_ := qaa.mk ((by rw [hg]; exact (qal (by repeat (first | (with_reducible first | exact HB.out | apply qac | apply qab | apply qag) | exact HB.out))) : w.heap.size ≤ qdp)); clear qlA; clear HB; have qlA := n0_; have HB := n1_; have qbP := n2_; have qDv := n3_; have qgD := n4_; clear n0_ n1_ n2_ n3_ n4_; clear hb hbox hg; have quB : w4.cell? ⟨qdp, 0, none⟩ = some (.slice A0_0 l0_0.length c0_0) := (qaf qbP.out 0).trans rfl; have quC : w4.cell? ⟨qdp, 1, none⟩ = some (.slice A0_1 l0_1.length c0_1) := (qaf qbP.out 1).trans rfl; have quD : w4.cell? ⟨qdp, 2, none⟩ = some (.slice A0_2 l0_2.length c0_2) := (qaf qbP.out 2).trans rfl; have quE : w4.cell? ⟨qdp, 3, none⟩ = some (.int .i64 a0_3) := (qaf qbP.out 3).trans rfl; have quF : w4.cell? ⟨qdp, 4, none⟩ = some (.int .i64 a0_4) := (qaf qbP.out 4).trans rfl; have quG := qaj qbP.out 0; have quH := qaj qbP.out 1; have quI := qaj qbP.out 2; have quJ := qaj qbP.out 3; have quK := qaj qbP.out 4))
 go_loopg [7, 8, 9] k (fun kq v7 v8 v9 w' => ∃ (x7_1 : List Int) (x8_1 : List Int) (x9_1 : Int), v9 = .int .i64 x9_1 ∧ qaa (qaF.l0 kq l1 l2 x7_1 x8_1 x9_1 l0_0 l0_1 l0_2 a0_3 a0_4 = some r) ∧ qaa (kq ≤ k) ∧ qaa (Kd.R (Kd.int .i64) 3 w' w.heap.size (fun k_ => (w.heap.size ≤ k_)) v7 x7_1) ∧ qaa (Kd.V (Kd.int .i64) 3 w' w.heap.size (fun k_ => (P0_0_ k_ ∨ w.heap.size ≤ k_) ∧ some k_ ≠ (v7 : Value).ownBlock ∧ k_ ≠ qdp) v8 x8_1) ∧ qaa (Kd.V (Kd.int .i64) 3 w' w.heap.size (fun k_ => (P0_0_ k_ ∨ w.heap.size ≤ k_) ∧ some k_ ≠ (v7 : Value).ownBlock ∧ k_ ≠ qdp) (.slice A0_0 l0_0.length c0_0) l0_0) ∧ qaa (w'.heap[qdp]? = some (.cells #[(.slice A0_0 l0_0.length c0_0), (.slice A0_1 l0_1.length c0_1), (.slice A0_2 l0_2.length c0_2), .int .i64 a0_3, .int .i64 a0_4] 39 (0, 0))) ∧ qaa (Below w.heap.size w w'))
 case atStart => exact ⟨(([] : List Int)), (l0_0), (0), (by first | rfl | (simp; done) | (simp [*]; done)), H', ⟨Nat.le_refl _⟩, ⟨by first | exact Kd.R_nil _ _ _ _ _ | exact Kd.N_nil _ _ _ _ _ | exact Kd.V_nil _ _ _ _ _ | exact Kd.Q_nil _ _ _ _ _ | exact Kd.S_nil _ _ _ _ _⟩, ⟨by (with_reducible repeat (first | apply Kd.V_alloc | apply Kd.V_drewN | apply Kd.V_drew)); exact Kd.V_mono qlA.out (fun _ hk => ⟨hk.1, ⟨(by simp [Value.ownBlock]), hk.2⟩⟩)⟩, ⟨by (with_reducible repeat (first | apply Kd.V_alloc | apply Kd.V_drewN | apply Kd.V_drew)); exact Kd.V_mono qlA.out (fun _ hk => ⟨hk.1, ⟨(by simp [Value.ownBlock]), hk.2⟩⟩)⟩, ⟨by (with_reducible repeat (first | refine qae ?_ _ | refine qai ?_ | refine qad ?_ _)); exact qbP.out⟩, ⟨by repeat (first | (with_reducible first | exact HB.out | apply qac | apply qab | apply qag | refine qah ?_ qgD.out) | exact HB.out)⟩⟩
 case round =>
  clear H'
  try clear c1
  try clear c2
  try clear p2
  try clear quB
  try clear quC
  try clear quD
  try clear quE
  try clear quF
  try clear quG
  try clear quH
  try clear quI
  try clear quJ
  try clear quK
  obtain ⟨x7_1, x8_1, x9_1, rfl, HA, HK1, HO_7, HO_8, HO_449000, qbP, HB⟩ := hrel
  cases gk with
  | zero => exact absurd HA.out (by simp [qaF.l0])
  | succ k1 =>
   have H := HA.out
   clear HA
   simp only [qaF.l0] at H
   by_cases c6 : x9_1 < (l1.length : Int)
   ·
    rw [if_pos c6] at H; have c6b0 : decide (x9_1 < (l1.length : Int)) = true := decide_eq_true c6; clear c6
    by_cases c7 : 0 ≤ x9_1
    ·
     rw [if_pos c7] at H; have c7b0 : decide (0 ≤ x9_1) = true := decide_eq_true c7; clear c7; replace H := Option.bind_eq_some_iff.mp H; obtain ⟨t450, A80, H⟩ := H; replace H : ((qby.f k1 l0_0 l0_1 l0_2 a0_3 a0_4 t450).bind fun t453 => (if x7_1.length < 17592186044416 then (if x9_1 < (l2.length : Int) then ((qaR.f k1 l0_0 l0_1 l0_2 a0_3 a0_4 t450 (rd l2 x9_1)).bind fun t458 => (qaF.l0 k1 l1 l2 (x7_1 ++ [t453]) t458 (wrap64 (x9_1 + 1)) l0_0 l0_1 l0_2 a0_3 a0_4)) else (none)) else (none))) = some r := H; have A8 := qaa.mk A80; clear A80; replace H := Option.bind_eq_some_iff.mp H; obtain ⟨t453, A90, H⟩ := H; replace H : (if x7_1.length < 17592186044416 then (if x9_1 < (l2.length : Int) then ((qaR.f k1 l0_0 l0_1 l0_2 a0_3 a0_4 t450 (rd l2 x9_1)).bind fun t458 => (qaF.l0 k1 l1 l2 (x7_1 ++ [t453]) t458 (wrap64 (x9_1 + 1)) l0_0 l0_1 l0_2 a0_3 a0_4)) else (none)) else (none)) = some r := H; have A9 := qaa.mk A90; clear A90
     by_cases c10 : x7_1.length < 17592186044416
     ·
      rw [if_pos c10] at H; have qvh := qaa.mk c10; clear c10; obtain ⟨y454, qlB⟩ : ∃ y_ : List Int, y_ = (x7_1 ++ [t453]) := ⟨_, rfl⟩
      replace H : (if x9_1 < (l2.length : Int) then ((qaR.f k1 l0_0 l0_1 l0_2 a0_3 a0_4 t450 (rd l2 x9_1)).bind fun t458 => (qaF.l0 k1 l1 l2 y454 t458 (wrap64 (x9_1 + 1)) l0_0 l0_1 l0_2 a0_3 a0_4)) else (none)) = some r := by first | (rw [qlB]; with_reducible exact H) | (have H2_ := (Option.bind_some _ _).symm.trans H; rw [qlB]; with_reducible exact H2_) | (have H2_ := (Option.bind_some _ _).symm.trans H; with_reducible exact H2_) | with_reducible exact H | (rw [qlB]; exact H) | exact H
      have qvi := qaa.mk qlB; clear qlB
      by_cases c11 : x9_1 < (l2.length : Int)
      ·
       rw [if_pos c11] at H; have c11b0 : decide (x9_1 < (l2.length : Int)) = true := decide_eq_true c11; clear c11; replace H := Option.bind_eq_some_iff.mp H; obtain ⟨t458, A120, H⟩ := H; replace H : (qaF.l0 k1 l1 l2 y454 t458 (wrap64 (x9_1 + 1)) l0_0 l0_1 l0_2 a0_3 a0_4) = some r := H; have A12 := qaa.mk A120; clear A120; have H' := qaa.mk H; clear H
       try go_wp2
       have n0_ := qaa.mk (Kd.R_drew HO_7.out); have n1_ := qaa.mk (Kd.V_drew HO_8.out); have n2_ := qaa.mk (Kd.V_drew HO_449000.out); have n3_ := qaa.mk (qai qbP.out); have n4_ := qaa.mk (qag HB.out); clear HO_7 HO_8 HO_449000 qbP HB; have HO_7 := n0_; have HO_8 := n1_; have HO_449000 := n2_; have qbP := n3_; have HB := n4_; clear n0_ n1_ n2_ n3_ n4_; have p449 : 0 ≤ (x9_1 : Int) := of_decide_eq_true (by first | (with_reducible assumption) | assumption); have q449 : x9_1 < (l1.length : Int) := of_decide_eq_true (by first | (with_reducible assumption) | assumption); obtain ⟨qvj, e449, qjo⟩ := Kd.at_int HR1.out x9_1 p449 q449; have qkw := qjo; cases e449; replace qjo := (HB.out.cell (World.block_lt_of_cell? w _ qjo)).trans qjo; replace p449 := eq_true p449; replace q449 := eq_true q449; obtain ⟨Ao14, co14, eo14⟩ := Kd.V_slice HO_8.out
       (first | subst eo14 | (injection eo14 with f1_ f2_ f3_; have f4_ := f1_.symm; have f5_ := f3_.symm; clear f1_ f2_ f3_; subst f4_; subst f5_))
       refine qhT (n := 8) (S := fun w' => w'.cell? ⟨qdp, 0, none⟩ = some (.slice A0_0 l0_0.length c0_0) ∧ w'.cell? ⟨qdp, 1, none⟩ = some (.slice A0_1 l0_1.length c0_1) ∧ w'.cell? ⟨qdp, 2, none⟩ = some (.slice A0_2 l0_2.length c0_2) ∧ w'.cell? ⟨qdp, 3, none⟩ = some (.int .i64 a0_3) ∧ w'.cell? ⟨qdp, 4, none⟩ = some (.int .i64 a0_4) ∧ w'.cell? (qvj.add (x9_1).toNat) = some (.int .i64 (rd l1 x9_1))) (ds := []) #[false, false, false, false, false, false, false, false] (by kernel_rfl) rfl rfl ⟨(qaf qbP.out 0).trans rfl, (qaf qbP.out 1).trans rfl, (qaf qbP.out 2).trans rfl, (qaf qbP.out 3).trans rfl, (qaf qbP.out 4).trans rfl, ((HB.out.cell (World.block_lt_of_cell? w _ qkw)).trans qkw)⟩ (fun hHeld => ?_); refine qgf qaF.tab6 qaF.bits6 (fun HT_ HW_ => ?_)
       generalize wr.drew = w13 at HO_7 HO_8 HO_449000 qbP HB qjo hHeld ⊢
       refine qbI (i := 1) (N := some 20) (v := ?_) (a' := ?_) #[false, true, false, false, false, false, false, false] rfl rfl (qbr HT_.out (by kernel_rfl)) (fun _ _ _ h => h) (Or.inl ⟨by rfl, ?_⟩) ?_ ?_
       rotate_left
       ·
        intro w'
        go_simp
        with_reducible rfl
       rotate_left
       ·
        simp only [Act.put, List.setIfInBounds_toArray, List.set_cons_zero, List.set_cons_succ, qaQ, qaU]
        rfl
       refine qbI (i := 2) (N := some 21) (v := ?_) (a' := ?_) #[false, true, true, false, false, false, false, false] rfl rfl (qbr HT_.out (by kernel_rfl)) (fun _ _ _ h => h) (Or.inl ⟨by rfl, ?_⟩) ?_ ?_
       rotate_left
       ·
        intro w'
        go_simp
        with_reducible rfl
       rotate_left
       ·
        simp only [Act.put, List.setIfInBounds_toArray, List.set_cons_zero, List.set_cons_succ, qaQ, qaU]
        rfl
       refine qbI (i := 3) (N := some 22) (v := ?_) (a' := ?_) #[false, true, true, true, false, false, false, false] rfl rfl (qbr HT_.out (by kernel_rfl)) (fun _ _ _ h => h) (Or.inl ⟨by rfl, ?_⟩) ?_ ?_
       rotate_left
       ·
        intro w'
        go_simp
        with_reducible rfl
       rotate_left
       ·
        simp only [Act.put, List.setIfInBounds_toArray, List.set_cons_zero, List.set_cons_succ, qaQ, qaU]
        rfl
       refine qbI (i := 4) (N := some 23) (v := ?_) (a' := ?_) #[false, true, true, true, true, false, false, false] rfl rfl (qbr HT_.out (by kernel_rfl)) (fun _ _ _ h => h) (Or.inl ⟨by rfl, ?_⟩) ?_ ?_
       rotate_left
       ·
        intro w'
        go_simp
        with_reducible rfl
       rotate_left
       ·
        simp only [Act.put, List.setIfInBounds_toArray, List.set_cons_zero, List.set_cons_succ, qaQ, qaU]
        rfl
       refine take_ (i := 0) (N := some 19) (v := ?_) (a' := ?_) #[true, true, true, true, true, false, false, false] rfl rfl (qdd HT_.out HW_.out (by kernel_rfl)) (fun _ _ _ h => h) (Or.inl ⟨by rfl, ?_⟩) hHeld ?_ ?_
       rotate_left
       ·
        rintro w' ⟨s0, s1, s2, s3, s4, s5⟩
        go_simp
        with_reducible rfl
       rotate_left
       ·
        simp only [Act.put, List.setIfInBounds_toArray, List.set_cons_zero, List.set_cons_succ, qaQ, qaU]
        rfl
       refine take_ (i := 5) (N := some 24) (v := ?_) (a' := ?_) #[true, true, true, true, true, true, false, false] rfl rfl (qdd HT_.out HW_.out (by kernel_rfl)) (fun _ _ _ h => h) (Or.inl ⟨by rfl, ?_⟩) hHeld ?_ ?_
       rotate_left
       ·
        rintro w' ⟨s0, s1, s2, s3, s4, s5⟩
        go_simp
        with_reducible rfl
       rotate_left
       ·
        simp only [Act.put, List.setIfInBounds_toArray, List.set_cons_zero, List.set_cons_succ, qaQ, qaU]
        rfl
       refine one_ (i := 6) (N := some 25) #[true, true, true, true, true, true, true, false] rfl rfl (qe1 HT_.out (by kernel_rfl)) (by decide) (fun K hK => ?_); refine qh4 Try.func99 (by kernel_rfl) rfl #[.agg #[.slice A0_0 l0_0.length c0_0, .slice A0_1 l0_1.length c0_1, .slice A0_2 l0_2.length c0_2, .int .i64 a0_3, .int .i64 a0_4], .slice Ao14 x8_1.length co14, .int .i64 (rd l1 x9_1)] (by rfl) rfl rfl (by (try simp only [List.map_toArray, List.map_cons, List.map_nil]); first | done | rfl | (simp only [List.length_drop, List.length_take]; rfl)) ?_
       with_reducible refine (qbl.calls k1 _ _ l0_0 _ _ l0_1 _ _ l0_2 a0_3 a0_4 _ _ x8_1 (rd l1 x9_1) t450 _ ?side1 ?side2 ?side3 ?side4 ?side5 ?side6 ?side7 ?side8 A8.out).mono ?_
       (case side1 => repeat (first | exact (Kd.V_reads' HO_449000.out).2.2 | (with_reducible refine Kd.C_alloc ?_ _) | (with_reducible refine Kd.C_drewN ?_ _) | (with_reducible refine Kd.C_drew ?_)))
       (case side2 => exact (Kd.V_reads' HO_449000.out).2.1)
       (case side3 => repeat (first | exact (Kd.C_below qb2.out HB.out) | (with_reducible refine Kd.C_alloc ?_ _) | (with_reducible refine Kd.C_drewN ?_ _) | (with_reducible refine Kd.C_drew ?_)))
       (case side4 => exact qcj.out)
       (case side5 => repeat (first | exact (Kd.C_below qb8.out HB.out) | (with_reducible refine Kd.C_alloc ?_ _) | (with_reducible refine Kd.C_drewN ?_ _) | (with_reducible refine Kd.C_drew ?_)))
       (case side6 => exact qck.out)
       (case side7 => repeat (first | exact (Kd.V_reads' HO_8.out).2.2 | (with_reducible refine Kd.C_alloc ?_ _) | (with_reducible refine Kd.C_drewN ?_ _) | (with_reducible refine Kd.C_drew ?_)))
       (case side8 => exact (Kd.V_reads' HO_8.out).2.1)
       rintro e w15 ⟨v451, rfl, ho0, hb⟩; refine ⟨_, rfl, ?_⟩; have n0_ := qaa.mk (Kd.R_elder' (by (with_reducible repeat (first | apply Kd.R_alloc | apply Kd.R_drewN | apply Kd.R_drew)); exact HO_7.out) (Kd.R_base ho0) hb); have n1_ := qaa.mk (Kd.V_elder' (by (with_reducible repeat (first | apply Kd.V_alloc | apply Kd.V_drewN | apply Kd.V_drew)); exact HO_8.out) (Kd.R_base ho0) hb); have n2_ := qaa.mk (Kd.V_elder' (by (with_reducible repeat (first | apply Kd.V_alloc | apply Kd.V_drewN | apply Kd.V_drew)); exact HO_449000.out) (Kd.R_base ho0) hb); have n3_ := qaa.mk (Kd.R_lower (Kd.R_new' (Kd.R_newM (M := fun k_ => (w.heap.size ≤ k_)) ho0 (qal (by repeat (first | (with_reducible first | exact HB.out | apply qac | apply qab | apply qag | refine qah ?_ qgD.out) | exact HB.out))) (fun k_ h_ => h_)) (Kd.R_lt (by (with_reducible repeat (first | apply Kd.R_alloc | apply Kd.R_drewN | apply Kd.R_drew)); exact HO_7.out))) (qal (by repeat (first | (with_reducible first | exact HB.out | apply qac | apply qab | apply qag | refine qah ?_ qgD.out) | exact HB.out)))); have n4_ := qaa.mk (qam (g := qdp) (o := .cells #[.slice A0_0 l0_0.length c0_0, .slice A0_1 l0_1.length c0_1, .slice A0_2 l0_2.length c0_2, .int .i64 a0_3, .int .i64 a0_4] 39 (0, 0)) (by (with_reducible repeat (first | refine qae ?_ _ | refine qai ?_ | refine qad ?_ _)); exact qbP.out) hb); have n5_ := qaa.mk (qap (by repeat (first | (with_reducible first | exact HB.out | apply qac | apply qab | apply qag | refine qah ?_ qgD.out) | exact HB.out)) hb); clear HO_7 HO_8 HO_449000 qbP HB; have HO_7 := n0_; have HO_8 := n1_; have HO_449000 := n2_; have qes := n3_; have qbP := n4_; have HB := n5_; clear n0_ n1_ n2_ n3_ n4_ n5_
       (try clear hb)
       (try clear hb2)
       (try clear hk)
       (try clear hi)
       (try clear ho0)
       refine hK.out _ _ ⟨(qaf qbP.out 0).trans rfl, (qaf qbP.out 1).trans rfl, (qaf qbP.out 2).trans rfl, (qaf qbP.out 3).trans rfl, (qaf qbP.out 4).trans rfl, ((HB.out.cell (World.block_lt_of_cell? w _ qkw)).trans qkw)⟩ (fun hHeld => ?_); clear hK K; refine qdZ (a' := ?_) ?_ ?_
       rotate_left
       ·
        show Act.put _ (some 25) _ = _
        simp only [Act.put, List.setIfInBounds_toArray, List.set_cons_zero, List.set_cons_succ, qaQ, qaU]
        rfl
       refine qbI (i := 7) (N := some 10) (v := ?_) (a' := ?_) #[true, true, true, true, true, true, true, true] rfl rfl (qbr HT_.out (by kernel_rfl)) (fun _ _ _ h => h) (Or.inl ⟨by rfl, ?_⟩) ?_ ?_
       rotate_left
       ·
        intro w'
        go_simp
        with_reducible rfl
       rotate_left
       ·
        simp only [Act.put, List.setIfInBounds_toArray, List.set_cons_zero, List.set_cons_succ, qaQ, qaU]
        rfl
       refine qiO (qho HT_.out (by kernel_rfl)) ?_; have qie : w15.cell? ⟨qdp, 0, none⟩ = some (.slice A0_0 l0_0.length c0_0) := (qaf qbP.out 0).trans rfl; have qif : w15.cell? ⟨qdp, 1, none⟩ = some (.slice A0_1 l0_1.length c0_1) := (qaf qbP.out 1).trans rfl; have qig : w15.cell? ⟨qdp, 2, none⟩ = some (.slice A0_2 l0_2.length c0_2) := (qaf qbP.out 2).trans rfl; have qmF : w15.cell? ⟨qdp, 3, none⟩ = some (.int .i64 a0_3) := (qaf qbP.out 3).trans rfl; have qmG : w15.cell? ⟨qdp, 4, none⟩ = some (.int .i64 a0_4) := (qaf qbP.out 4).trans rfl; have qih := qaj qbP.out 0; have qii := qaj qbP.out 1; have qij := qaj qbP.out 2; have qmH := qaj qbP.out 3; have qmI := qaj qbP.out 4; obtain ⟨Ao17, co17, eo17⟩ := Kd.R_slice qes.out; subst eo17
       try go_wp2_with (first | ((with_reducible refine qaz (f := 100) rfl ?_); refine qbd (some 29) rfl rfl Try.func100 (by kernel_rfl) rfl #[.agg #[.slice A0_0 l0_0.length c0_0, .slice A0_1 l0_1.length c0_1, .slice A0_2 l0_2.length c0_2, .int .i64 a0_3, .int .i64 a0_4], .slice Ao17 t450.length co17] rfl (by (try simp only [List.map_toArray, List.map_cons, List.map_nil]); first | done | rfl | (simp only [List.length_drop, List.length_take]; rfl)) ?_; (with_reducible refine (qby.calls k1 _ _ l0_0 _ _ l0_1 _ _ l0_2 a0_3 a0_4 _ _ t450 t453 _ ?side1 ?side2 ?side3 ?side4 ?side5 ?side6 ?side7 ?side8 A9.out).mono ?_); (case side1 => repeat (first | exact (Kd.V_reads' HO_449000.out).2.2 | (with_reducible refine Kd.C_alloc ?_ _) | (with_reducible refine Kd.C_drewN ?_ _) | (with_reducible refine Kd.C_drew ?_))); (case side2 => exact (Kd.V_reads' HO_449000.out).2.1); (case side3 => repeat (first | exact (Kd.C_below qb2.out HB.out) | (with_reducible refine Kd.C_alloc ?_ _) | (with_reducible refine Kd.C_drewN ?_ _) | (with_reducible refine Kd.C_drew ?_))); (case side4 => exact qcj.out); (case side5 => repeat (first | exact (Kd.C_below qb8.out HB.out) | (with_reducible refine Kd.C_alloc ?_ _) | (with_reducible refine Kd.C_drewN ?_ _) | (with_reducible refine Kd.C_drew ?_))); (case side6 => exact qck.out); (case side7 => repeat (first | exact (Kd.R_reads' qes.out).2.2 | (with_reducible refine Kd.C_alloc ?_ _) | (with_reducible refine Kd.C_drewN ?_ _) | (with_reducible refine Kd.C_drew ?_))); (case side8 => exact (Kd.R_reads' qes.out).2.1); rintro e w18 ⟨rfl, hb⟩; refine ⟨_, rfl, ?_⟩; have n0_ := qaa.mk (Kd.R_below (by (with_reducible repeat (first | apply Kd.R_alloc | apply Kd.R_drewN | apply Kd.R_drew)); exact HO_7.out) hb); have n1_ := qaa.mk (Kd.V_below (by (with_reducible repeat (first | apply Kd.V_alloc | apply Kd.V_drewN | apply Kd.V_drew)); exact HO_8.out) hb); have n2_ := qaa.mk (Kd.V_below (by (with_reducible repeat (first | apply Kd.V_alloc | apply Kd.V_drewN | apply Kd.V_drew)); exact HO_449000.out) hb); have n3_ := qaa.mk (Kd.R_below (by (with_reducible repeat (first | apply Kd.R_alloc | apply Kd.R_drewN | apply Kd.R_drew)); exact qes.out) hb); have n4_ := qaa.mk (qam (g := qdp) (o := .cells #[.slice A0_0 l0_0.length c0_0, .slice A0_1 l0_1.length c0_1, .slice A0_2 l0_2.length c0_2, .int .i64 a0_3, .int .i64 a0_4] 39 (0, 0)) (by (with_reducible repeat (first | refine qae ?_ _ | refine qai ?_ | refine qad ?_ _)); exact qbP.out) hb); have n5_ := qaa.mk (qap (by repeat (first | (with_reducible first | exact HB.out | apply qac | apply qab | apply qag | refine qah ?_ qgD.out) | exact HB.out)) hb); clear HO_7; clear HO_8; clear HO_449000; clear qes; clear qbP; clear HB; have HO_7 := n0_; have HO_8 := n1_; have HO_449000 := n2_; have qes := n3_; have qbP := n4_; have HB := n5_; clear n0_ n1_ n2_ n3_ n4_ n5_; (try clear hb); (try clear hb2); (try clear hk); (try clear hi)) | ((with_reducible refine qj9 (b := .append) (xs := #[.tmp 26, .tmp 30]) rfl ?_); at_builtin; refine Kd.R_append (Kd.int .i64) (w0 := w) w.heap.size rfl (.tmp 26) (.tmp 30) 37 3 (.int .i64 0) 8 rfl Try.underlying37 qhf rfl (by decide) (by omega) u7 x7_1 t453 [.int .i64 t453] (fun k_ => (w.heap.size ≤ k_) ∧ some k_ ≠ (.slice Ao17 t450.length co17 : Value).ownBlock) (fun _ => False) rfl rfl ?aP (fun _ hk => hk.elim) ?aF ?aO ?aB ?aS ?aL ?_; (case aP => exact rfl); (case aB => exact (by repeat (first | (with_reducible first | exact HB.out | apply qac | apply qab | apply qag | refine qah ?_ qgD.out) | exact HB.out))); (case aF => exact (fun k_ hk => ⟨(Nat.le_trans (qal (by repeat (first | (with_reducible first | exact HB.out | apply qac | apply qab | apply qag | refine qah ?_ qgD.out) | exact HB.out))) hk), Kd.fresh' (Kd.R_lt (by (with_reducible repeat (first | apply Kd.R_alloc | apply Kd.R_drewN | apply Kd.R_drew)); exact qes.out)) k_ hk⟩)); (case aO => exact (by (with_reducible repeat (first | apply Kd.R_alloc | apply Kd.R_drewN | apply Kd.R_drew)); exact HO_7.out)); (case aS => exact (qal (by repeat (first | (with_reducible first | exact HB.out | apply qac | apply qab | apply qag | refine qah ?_ qgD.out) | exact HB.out)))); (case aL => have := qvh.out; omega); intro v455 w19 ho hb hg hat; rw [← qvi.out] at ho; have n0_ := qaa.mk (Kd.V_afterv (ok := (fun k_ => (P0_0_ k_ ∨ w.heap.size ≤ k_) ∧ some k_ ≠ (.slice Ao17 t450.length co17 : Value).ownBlock ∧ k_ ≠ qdp)) (by (with_reducible repeat (first | apply Kd.V_alloc | apply Kd.V_drewN | apply Kd.V_drew)); exact Kd.V_mono HO_8.out (fun _ hk => ⟨⟨hk.1.1, ⟨hk.2, hk.1.2.2⟩⟩, hk.1.2.1⟩)) hg hat); have n1_ := qaa.mk (Kd.V_afterv (ok := (fun k_ => (P0_0_ k_ ∨ w.heap.size ≤ k_) ∧ some k_ ≠ (.slice Ao17 t450.length co17 : Value).ownBlock ∧ k_ ≠ qdp)) (by (with_reducible repeat (first | apply Kd.V_alloc | apply Kd.V_drewN | apply Kd.V_drew)); exact Kd.V_mono HO_449000.out (fun _ hk => ⟨⟨hk.1.1, ⟨hk.2, hk.1.2.2⟩⟩, hk.1.2.1⟩)) hg hat); have n2_ := qaa.mk (qdw (g := qdp) (o := .cells #[.slice A0_0 l0_0.length c0_0, .slice A0_1 l0_1.length c0_1, .slice A0_2 l0_2.length c0_2, .int .i64 a0_3, .int .i64 a0_4] 39 (0, 0)) (by (with_reducible repeat (first | refine qae ?_ _ | refine qai ?_ | refine qad ?_ _)); exact qbP.out) hg (Kd.R_ne HO_7.out qbP.out (by decide))); have n3_ := qaa.mk (Kd.R_after (ok := (fun k_ => (w.heap.size ≤ k_))) (by (with_reducible repeat (first | apply Kd.R_alloc | apply Kd.R_drewN | apply Kd.R_drew)); exact Kd.R_mono qes.out (fun _ hk => ⟨hk.1.1, hk.2⟩)) hg hat); have n4_ := qaa.mk (hb); have n5_ := qaa.mk (ho); clear HO_8; clear HO_449000; clear qbP; clear qes; clear HB; clear HO_7; have HO_8 := n0_; have HO_449000 := n1_; have qbP := n2_; have qes := n3_; have HB := n4_; have qh6 := n5_; clear n0_ n1_ n2_ n3_ n4_ n5_; clear ho hb hg hat))
       have n0_ := qaa.mk (Kd.V_drew HO_8.out); have n1_ := qaa.mk (Kd.V_drew HO_449000.out); have n2_ := qaa.mk (Kd.R_drew qes.out); have n3_ := qaa.mk (Kd.R_drew qh6.out); have n4_ := qaa.mk (qai qbP.out); have n5_ := qaa.mk (qag HB.out); clear HO_8 HO_449000 qes qh6 qbP HB; have HO_8 := n0_; have HO_449000 := n1_; have qes := n2_; have qh6 := n3_; have qbP := n4_; have HB := n5_; clear n0_ n1_ n2_ n3_ n4_ n5_; have p457 : 0 ≤ (x9_1 : Int) := of_decide_eq_true (by first | (with_reducible assumption) | assumption); have q457 : x9_1 < (l2.length : Int) := of_decide_eq_true (by first | (with_reducible assumption) | assumption); obtain ⟨qvk, e457, qjp⟩ := Kd.at_int HR2.out x9_1 p457 q457; have qkx := qjp; cases e457; replace qjp := (HB.out.cell (World.block_lt_of_cell? w _ qjp)).trans qjp; replace p457 := eq_true p457; replace q457 := eq_true q457; refine qhT (n := 8) (S := fun w' => w'.cell? ⟨qdp, 0, none⟩ = some (.slice A0_0 l0_0.length c0_0) ∧ w'.cell? ⟨qdp, 1, none⟩ = some (.slice A0_1 l0_1.length c0_1) ∧ w'.cell? ⟨qdp, 2, none⟩ = some (.slice A0_2 l0_2.length c0_2) ∧ w'.cell? ⟨qdp, 3, none⟩ = some (.int .i64 a0_3) ∧ w'.cell? ⟨qdp, 4, none⟩ = some (.int .i64 a0_4) ∧ w'.cell? (qvk.add (x9_1).toNat) = some (.int .i64 (rd l2 x9_1))) (ds := []) #[false, false, false, false, false, false, false, false] (by kernel_rfl) rfl rfl ⟨(qaf qbP.out 0).trans rfl, (qaf qbP.out 1).trans rfl, (qaf qbP.out 2).trans rfl, (qaf qbP.out 3).trans rfl, (qaf qbP.out 4).trans rfl, ((HB.out.cell (World.block_lt_of_cell? w _ qkx)).trans qkx)⟩ (fun hHeld => ?_); refine qgf qaF.tab8 qaF.bits8 (fun HT_ HW_ => ?_)
       generalize w19.drew = w20 at HO_8 HO_449000 qes qh6 qbP HB qjp hHeld ⊢
       refine qbI (i := 1) (N := some 33) (v := ?_) (a' := ?_) #[false, true, false, false, false, false, false, false] rfl rfl (qbr HT_.out (by kernel_rfl)) (fun _ _ _ h => h) (Or.inl ⟨by rfl, ?_⟩) ?_ ?_
       rotate_left
       ·
        intro w'
        go_simp
        with_reducible rfl
       rotate_left
       ·
        simp only [Act.put, List.setIfInBounds_toArray, List.set_cons_zero, List.set_cons_succ, qaQ, qaU]
        rfl
       refine qbI (i := 2) (N := some 34) (v := ?_) (a' := ?_) #[false, true, true, false, false, false, false, false] rfl rfl (qbr HT_.out (by kernel_rfl)) (fun _ _ _ h => h) (Or.inl ⟨by rfl, ?_⟩) ?_ ?_
       rotate_left
       ·
        intro w'
        go_simp
        with_reducible rfl
       rotate_left
       ·
        simp only [Act.put, List.setIfInBounds_toArray, List.set_cons_zero, List.set_cons_succ, qaQ, qaU]
        rfl
       refine qbI (i := 3) (N := some 35) (v := ?_) (a' := ?_) #[false, true, true, true, false, false, false, false] rfl rfl (qbr HT_.out (by kernel_rfl)) (fun _ _ _ h => h) (Or.inl ⟨by rfl, ?_⟩) ?_ ?_
       rotate_left
       ·
        intro w'
        go_simp
        with_reducible rfl
       rotate_left
       ·
        simp only [Act.put, List.setIfInBounds_toArray, List.set_cons_zero, List.set_cons_succ, qaQ, qaU]
        rfl
       refine qbI (i := 4) (N := some 36) (v := ?_) (a' := ?_) #[false, true, true, true, true, false, false, false] rfl rfl (qbr HT_.out (by kernel_rfl)) (fun _ _ _ h => h) (Or.inl ⟨by rfl, ?_⟩) ?_ ?_
       rotate_left
       ·
        intro w'
        go_simp
        with_reducible rfl
       rotate_left
       ·
        simp only [Act.put, List.setIfInBounds_toArray, List.set_cons_zero, List.set_cons_succ, qaQ, qaU]
        rfl
       refine take_ (i := 0) (N := some 32) (v := ?_) (a' := ?_) #[true, true, true, true, true, false, false, false] rfl rfl (qdd HT_.out HW_.out (by kernel_rfl)) (fun _ _ _ h => h) (Or.inl ⟨by rfl, ?_⟩) hHeld ?_ ?_
       rotate_left
       ·
        rintro w' ⟨s0, s1, s2, s3, s4, s5⟩
        go_simp
        with_reducible rfl
       rotate_left
       ·
        simp only [Act.put, List.setIfInBounds_toArray, List.set_cons_zero, List.set_cons_succ, qaQ, qaU]
        rfl
       refine take_ (i := 5) (N := some 37) (v := ?_) (a' := ?_) #[true, true, true, true, true, true, false, false] rfl rfl (qdd HT_.out HW_.out (by kernel_rfl)) (fun _ _ _ h => h) (Or.inl ⟨by rfl, ?_⟩) hHeld ?_ ?_
       rotate_left
       ·
        rintro w' ⟨s0, s1, s2, s3, s4, s5⟩
        go_simp
        with_reducible rfl
       rotate_left
       ·
        simp only [Act.put, List.setIfInBounds_toArray, List.set_cons_zero, List.set_cons_succ, qaQ, qaU]
        rfl
       refine one_ (i := 6) (N := some 38) #[true, true, true, true, true, true, true, false] rfl rfl (qe1 HT_.out (by kernel_rfl)) (by decide) (fun K hK => ?_); refine qh4 Try.func101 (by kernel_rfl) rfl #[.agg #[.slice A0_0 l0_0.length c0_0, .slice A0_1 l0_1.length c0_1, .slice A0_2 l0_2.length c0_2, .int .i64 a0_3, .int .i64 a0_4], .slice Ao17 t450.length co17, .int .i64 (rd l2 x9_1)] (by rfl) rfl rfl (by (try simp only [List.map_toArray, List.map_cons, List.map_nil]); first | done | rfl | (simp only [List.length_drop, List.length_take]; rfl)) ?_
       with_reducible refine (qaR.calls k1 _ _ l0_0 _ _ l0_1 _ _ l0_2 a0_3 a0_4 _ _ t450 (rd l2 x9_1) t458 _ ?side1 ?side2 ?side3 ?side4 ?side5 ?side6 ?side7 ?side8 A12.out).mono ?_
       (case side1 => repeat (first | exact (Kd.V_reads' HO_449000.out).2.2 | (with_reducible refine Kd.C_alloc ?_ _) | (with_reducible refine Kd.C_drewN ?_ _) | (with_reducible refine Kd.C_drew ?_)))
       (case side2 => exact (Kd.V_reads' HO_449000.out).2.1)
       (case side3 => repeat (first | exact (Kd.C_below qb2.out HB.out) | (with_reducible refine Kd.C_alloc ?_ _) | (with_reducible refine Kd.C_drewN ?_ _) | (with_reducible refine Kd.C_drew ?_)))
       (case side4 => exact qcj.out)
       (case side5 => repeat (first | exact (Kd.C_below qb8.out HB.out) | (with_reducible refine Kd.C_alloc ?_ _) | (with_reducible refine Kd.C_drewN ?_ _) | (with_reducible refine Kd.C_drew ?_)))
       (case side6 => exact qck.out)
       (case side7 => repeat (first | exact (Kd.R_reads' qes.out).2.2 | (with_reducible refine Kd.C_alloc ?_ _) | (with_reducible refine Kd.C_drewN ?_ _) | (with_reducible refine Kd.C_drew ?_)))
       (case side8 => exact (Kd.R_reads' qes.out).2.1)
       rintro e w21 ⟨v459, rfl, ho0, hb⟩; refine ⟨_, rfl, ?_⟩; have n0_ := qaa.mk (Kd.V_elder' (by (with_reducible repeat (first | apply Kd.V_alloc | apply Kd.V_drewN | apply Kd.V_drew)); exact HO_8.out) (Kd.R_base ho0) hb); have n1_ := qaa.mk (Kd.V_elder' (by (with_reducible repeat (first | apply Kd.V_alloc | apply Kd.V_drewN | apply Kd.V_drew)); exact HO_449000.out) (Kd.R_base ho0) hb); have n2_ := qaa.mk (Kd.R_elder' (by (with_reducible repeat (first | apply Kd.R_alloc | apply Kd.R_drewN | apply Kd.R_drew)); exact qes.out) (Kd.R_base ho0) hb); have n3_ := qaa.mk (Kd.R_elder' (by (with_reducible repeat (first | apply Kd.R_alloc | apply Kd.R_drewN | apply Kd.R_drew)); exact qh6.out) (Kd.R_base ho0) hb); have n4_ := qaa.mk (Kd.R_lower (Kd.R_new' (Kd.R_new' (Kd.R_newM (M := fun k_ => (w.heap.size ≤ k_)) ho0 (qal (by repeat (first | (with_reducible first | exact HB.out | apply qac | apply qab | apply qag | refine qah ?_ qgD.out) | exact HB.out))) (fun k_ h_ => h_)) (Kd.R_lt (by (with_reducible repeat (first | apply Kd.R_alloc | apply Kd.R_drewN | apply Kd.R_drew)); exact qes.out))) (Kd.R_lt (by (with_reducible repeat (first | apply Kd.R_alloc | apply Kd.R_drewN | apply Kd.R_drew)); exact qh6.out))) (qal (by repeat (first | (with_reducible first | exact HB.out | apply qac | apply qab | apply qag | refine qah ?_ qgD.out) | exact HB.out)))); have n5_ := qaa.mk (qam (g := qdp) (o := .cells #[.slice A0_0 l0_0.length c0_0, .slice A0_1 l0_1.length c0_1, .slice A0_2 l0_2.length c0_2, .int .i64 a0_3, .int .i64 a0_4] 39 (0, 0)) (by (with_reducible repeat (first | refine qae ?_ _ | refine qai ?_ | refine qad ?_ _)); exact qbP.out) hb); have n6_ := qaa.mk (qap (by repeat (first | (with_reducible first | exact HB.out | apply qac | apply qab | apply qag | refine qah ?_ qgD.out) | exact HB.out)) hb); clear HO_8 HO_449000 qes qh6 qbP HB; have HO_8 := n0_; have HO_449000 := n1_; have qes := n2_; have qh6 := n3_; have qvl := n4_; have qbP := n5_; have HB := n6_; clear n0_ n1_ n2_ n3_ n4_ n5_ n6_
       (try clear hb)
       (try clear hb2)
       (try clear hk)
       (try clear hi)
       (try clear ho0)
       refine hK.out _ _ ⟨(qaf qbP.out 0).trans rfl, (qaf qbP.out 1).trans rfl, (qaf qbP.out 2).trans rfl, (qaf qbP.out 3).trans rfl, (qaf qbP.out 4).trans rfl, ((HB.out.cell (World.block_lt_of_cell? w _ qkx)).trans qkx)⟩ (fun hHeld => ?_); clear hK K; refine qdZ (a' := ?_) ?_ ?_
       rotate_left
       ·
        show Act.put _ (some 38) _ = _
        simp only [Act.put, List.setIfInBounds_toArray, List.set_cons_zero, List.set_cons_succ, qaQ, qaU]
        rfl
       refine qbI (i := 7) (N := some 8) (v := ?_) (a' := ?_) #[true, true, true, true, true, true, true, true] rfl rfl (qbr HT_.out (by kernel_rfl)) (fun _ _ _ h => h) (Or.inl ⟨by rfl, ?_⟩) ?_ ?_
       rotate_left
       ·
        intro w'
        go_simp
        with_reducible rfl
       rotate_left
       ·
        simp only [Act.put, List.setIfInBounds_toArray, List.set_cons_zero, List.set_cons_succ, qaQ, qaU]
        rfl
       refine qiO (qho HT_.out (by kernel_rfl)) ?_
       try go_wp2
       go_roundg k1
       case measure => have := HK1.out; omega
       case rel => exact ⟨(y454), (t458), (wrap64 (x9_1 + 1)), (by first | rfl | (simp; done) | (simp [*]; done)), H', ⟨by have := HK1.out; omega⟩, ⟨by (with_reducible repeat (first | apply Kd.R_alloc | apply Kd.R_drewN | apply Kd.R_drew)); exact Kd.R_mono qh6.out (fun _ hk => hk.1.1)⟩, ⟨Kd.R_V (Kd.R_mono (Kd.R_types qvl.out qbP.out (by decide)) (fun _ hk => ⟨.inr hk.1.1.1.1, hk.1.2, hk.2⟩))⟩, ⟨by (with_reducible repeat (first | apply Kd.V_alloc | apply Kd.V_drewN | apply Kd.V_drew)); exact Kd.V_mono HO_449000.out (fun _ hk => ⟨hk.1.1.1, ⟨hk.1.2, hk.1.1.2.2⟩⟩)⟩, ⟨by (with_reducible repeat (first | refine qae ?_ _ | refine qai ?_ | refine qad ?_ _)); exact qbP.out⟩, ⟨by repeat (first | (with_reducible first | exact HB.out | apply qac | apply qab | apply qag | refine qah ?_ qgD.out) | exact HB.out)⟩⟩
      rw [if_neg c11] at H
      exact absurd H (by simp)
     rw [if_neg c10] at H
     exact absurd H (by simp)
    rw [if_neg c7] at H
    exact absurd H (by simp)
   rw [if_neg c6] at H
   have c6b0 : decide (x9_1 < (l1.length : Int)) = false := decide_eq_false c6
   clear c6
   obtain rfl := Option.some.inj H
   go_wp2
   go_ret
   exact ⟨_, by first | rfl | (simp [qaC, qaB] <;> rfl) | (simp [*, qaC, qaB] <;> rfl), by (with_reducible repeat (first | apply Kd.R_alloc | apply Kd.R_drewN | apply Kd.R_drew)); exact HO_7.out, by repeat (first | (with_reducible first | exact HB.out | apply qac | apply qab | apply qag | refine qah ?_ qgD.out) | exact HB.out)⟩
end Go.Proofs.Ytmhomdohhihlcaa.P
namespace Go.Proofs.Ytmhomdohhihlcaa.P
open Go.RowKit Go.Proofs.YtmhomdohhihlcaaW.PrintWords Go.Proofs.YtmhomdohhihlcaaW.PrintLast Go.Proofs.YtmhomdohhihlcaaW.PrintMore
attribute [local go_sem] qbT qbR qb7 qb6 qbH qbG qbS qbU
def qdo.f (k : Nat) (l0_0 : List Int) (l0_1 : List Int) (l0_2 : List Int) (a0_3 : Int) (a0_4 : Int) (l1 : List Int) (l2 : List Int) : Option (List Int × Int) := (qas.f k l0_0 l0_1 l0_2 a0_3 a0_4).bind fun t462 => (if t462 = true then ((qaG.f (l1.length : Int) 1 10).bind fun t463 => (if t463 = true then ((qaK.f k l1 (l1.length : Int) 100000000).bind fun t464 => (if t464 = true then ((qaK.f k l2 (l1.length : Int) 100000).bind fun t465 => (if t465 = true then ((qaF.f k l0_0 l0_1 l0_2 a0_3 a0_4 l1 l2).bind fun t466 => (some (t466, 0))) else (some (([] : List Int), 92)))) else (some (([] : List Int), 92)))) else (some (([] : List Int), 92)))) else (some (([] : List Int), 92)))
set_option maxHeartbeats 8000000 in
set_option maxRecDepth 100000 in
theorem qdo.calls (k : Nat) (A0_0 : Option Addr) (c0_0 : Nat) (l0_0 : List Int) (A0_1 : Option Addr) (c0_1 : Nat) (l0_1 : List Int) (A0_2 : Option Addr) (c0_2 : Nat) (l0_2 : List Int) (a0_3 : Int) (a0_4 : Int) (A1 : Option Addr) (c1 : Nat) (l1 : List Int) (A2 : Option Addr) (c2 : Nat) (l2 : List Int) (r1 : List Int) (r2 : Int) (w : World) (qcQ : Kd.C (Kd.int .i64) w A0_0 l0_0.length l0_0) (qcV : l0_0.length ≤ c0_0) (qcH : Kd.C (Kd.int .i64) w A0_1 l0_1.length l0_1) (qcL : l0_1.length ≤ c0_1) (qcI : Kd.C (Kd.int .i64) w A0_2 l0_2.length l0_2) (qcM : l0_2.length ≤ c0_2) (hr1 : Kd.C (Kd.int .i64) w A1 l1.length l1) (hc1 : l1.length ≤ c1) (hr2 : Kd.C (Kd.int .i64) w A2 l2.length l2) (hc2 : l2.length ≤ c2) (h : qdo.f k l0_0 l0_1 l0_2 a0_3 a0_4 l1 l2 = some (r1, r2)) :
  Calls Try.prog 26 #[.agg #[.slice A0_0 l0_0.length c0_0, .slice A0_1 l0_1.length c0_1, .slice A0_2 l0_2.length c0_2, .int .i64 a0_3, .int .i64 a0_4], .slice A1 l1.length c1, .slice A2 l2.length c2] w fun e w' => ∃ v0_ : Value, e = .returned (.tuple #[v0_, .int .i64 r2]) ∧ Kd.R (Kd.int .i64) 3 w' w.heap.size (fun _ => True) v0_ r1 ∧ Below w.heap.size w w' := by
 have hu39 := Try.underlying39
 have qb9 := qaa.mk qcQ
 have qcx := qaa.mk qcV
 clear qcQ qcV
 have qb2 := qaa.mk qcH
 have qcj := qaa.mk qcL
 clear qcH qcL
 have qb8 := qaa.mk qcI
 have qck := qaa.mk qcM
 clear qcI qcM
 have HR1 := qaa.mk hr1
 have HC1 := qaa.mk hc1
 clear hr1 hc1
 have HR2 := qaa.mk hr2
 have HC2 := qaa.mk hc2
 clear hr2 hc2
 have HB := qaa.mk (Below.refl w.heap.size w)
 have H : ((qas.f k l0_0 l0_1 l0_2 a0_3 a0_4).bind fun t462 => (if t462 = true then ((qaG.f (l1.length : Int) 1 10).bind fun t463 => (if t463 = true then ((qaK.f k l1 (l1.length : Int) 100000000).bind fun t464 => (if t464 = true then ((qaK.f k l2 (l1.length : Int) 100000).bind fun t465 => (if t465 = true then ((qaF.f k l0_0 l0_1 l0_2 a0_3 a0_4 l1 l2).bind fun t466 => (some (t466, 0))) else (some (([] : List Int), 92)))) else (some (([] : List Int), 92)))) else (some (([] : List Int), 92)))) else (some (([] : List Int), 92)))) = some (r1, r2) := h
 clear h
 replace H := Option.bind_eq_some_iff.mp H
 obtain ⟨t462, A40, H⟩ := H
 replace H : (if t462 = true then ((qaG.f (l1.length : Int) 1 10).bind fun t463 => (if t463 = true then ((qaK.f k l1 (l1.length : Int) 100000000).bind fun t464 => (if t464 = true then ((qaK.f k l2 (l1.length : Int) 100000).bind fun t465 => (if t465 = true then ((qaF.f k l0_0 l0_1 l0_2 a0_3 a0_4 l1 l2).bind fun t466 => (some (t466, 0))) else (some (([] : List Int), 92)))) else (some (([] : List Int), 92)))) else (some (([] : List Int), 92)))) else (some (([] : List Int), 92))) = some (r1, r2) := H
 have A4 := qaa.mk A40
 clear A40
 by_cases c5 : t462 = true
 ·
  subst c5
  have H1 : ((qaG.f (l1.length : Int) 1 10).bind fun t463 => (if t463 = true then ((qaK.f k l1 (l1.length : Int) 100000000).bind fun t464 => (if t464 = true then ((qaK.f k l2 (l1.length : Int) 100000).bind fun t465 => (if t465 = true then ((qaF.f k l0_0 l0_1 l0_2 a0_3 a0_4 l1 l2).bind fun t466 => (some (t466, 0))) else (some (([] : List Int), 92)))) else (some (([] : List Int), 92)))) else (some (([] : List Int), 92)))) = some (r1, r2) := by rw [if_pos rfl] at H; exact H
  clear H
  have H := H1
  clear H1
  replace H := Option.bind_eq_some_iff.mp H
  obtain ⟨t463, A60, H⟩ := H
  replace H : (if t463 = true then ((qaK.f k l1 (l1.length : Int) 100000000).bind fun t464 => (if t464 = true then ((qaK.f k l2 (l1.length : Int) 100000).bind fun t465 => (if t465 = true then ((qaF.f k l0_0 l0_1 l0_2 a0_3 a0_4 l1 l2).bind fun t466 => (some (t466, 0))) else (some (([] : List Int), 92)))) else (some (([] : List Int), 92)))) else (some (([] : List Int), 92))) = some (r1, r2) := H
  have A6 := qaa.mk A60
  clear A60
  by_cases c7 : t463 = true
  ·
   subst c7
   have H1 : ((qaK.f k l1 (l1.length : Int) 100000000).bind fun t464 => (if t464 = true then ((qaK.f k l2 (l1.length : Int) 100000).bind fun t465 => (if t465 = true then ((qaF.f k l0_0 l0_1 l0_2 a0_3 a0_4 l1 l2).bind fun t466 => (some (t466, 0))) else (some (([] : List Int), 92)))) else (some (([] : List Int), 92)))) = some (r1, r2) := by rw [if_pos rfl] at H; exact H
   clear H
   have H := H1
   clear H1
   replace H := Option.bind_eq_some_iff.mp H
   obtain ⟨t464, A80, H⟩ := H
   replace H : (if t464 = true then ((qaK.f k l2 (l1.length : Int) 100000).bind fun t465 => (if t465 = true then ((qaF.f k l0_0 l0_1 l0_2 a0_3 a0_4 l1 l2).bind fun t466 => (some (t466, 0))) else (some (([] : List Int), 92)))) else (some (([] : List Int), 92))) = some (r1, r2) := H
   have A8 := qaa.mk A80
   clear A80
   by_cases c9 : t464 = true
   ·
    subst c9
    have H1 : ((qaK.f k l2 (l1.length : Int) 100000).bind fun t465 => (if t465 = true then ((qaF.f k l0_0 l0_1 l0_2 a0_3 a0_4 l1 l2).bind fun t466 => (some (t466, 0))) else (some (([] : List Int), 92)))) = some (r1, r2) := by rw [if_pos rfl] at H; exact H
    clear H; have H := H1; clear H1; replace H := Option.bind_eq_some_iff.mp H; obtain ⟨t465, A100, H⟩ := H; replace H : (if t465 = true then ((qaF.f k l0_0 l0_1 l0_2 a0_3 a0_4 l1 l2).bind fun t466 => (some (t466, 0))) else (some (([] : List Int), 92))) = some (r1, r2) := H; have A10 := qaa.mk A100; clear A100
    by_cases c11 : t465 = true
    ·
     subst c11
     have H1 : ((qaF.f k l0_0 l0_1 l0_2 a0_3 a0_4 l1 l2).bind fun t466 => (some (t466, 0))) = some (r1, r2) := by rw [if_pos rfl] at H; exact H
     clear H; have H := H1; clear H1; replace H := Option.bind_eq_some_iff.mp H; obtain ⟨t466, A120, H⟩ := H; replace H : (some (t466, 0)) = some (r1, r2) := H; have A12 := qaa.mk A120; clear A120; simp only [Option.some.injEq, Prod.mk.injEq] at H; obtain ⟨rfl, rfl⟩ := H
     go_enter Try.func26, Try.ntmps26
     go_wp2_with (first | ((with_reducible refine qaN (N := 3) rfl ?_); (try (refine qdG (by rfl) ?_; dsimp only)); refine qba ?hg (N := 3) ?hd (cs := #[.slice A0_0 l0_0.length c0_0, .slice A0_1 l0_1.length c0_1, .slice A0_2 l0_2.length c0_2, .int .i64 a0_3, .int .i64 a0_4]) (t := 39) ?hr ?_; (case hd => rfl); (case hg => rfl); (case hr => first | (go_simp; done) | (go_simp; rfl)); intro qcl hg w13 hbox hb; have n0_ := qaa.mk (qap (by repeat (first | (with_reducible first | exact HB.out | apply qac | apply qab | apply qag) | exact HB.out)) hb); have n1_ := qaa.mk (hbox); have n2_ := qaa.mk ((by rw [hg]; exact (qal (by repeat (first | (with_reducible first | exact HB.out | apply qac | apply qab | apply qag) | exact HB.out))) : w.heap.size ≤ qcl)); have n3_ := qaa.mk ((by rw [hg]; exact (qal (by repeat (first | (with_reducible first | exact HB.out | apply qac | apply qab | apply qag) | exact HB.out))) : w.heap.size ≤ qcl)); clear HB; have HB := n0_; have qbs := n1_; have qnk := n2_; have qdL := n3_; clear n0_ n1_ n2_ n3_; clear hb hbox hg; have qeJ : w13.cell? ⟨qcl, 0, none⟩ = some (.slice A0_0 l0_0.length c0_0) := (qaf qbs.out 0).trans rfl; have qeK : w13.cell? ⟨qcl, 1, none⟩ = some (.slice A0_1 l0_1.length c0_1) := (qaf qbs.out 1).trans rfl; have qeL : w13.cell? ⟨qcl, 2, none⟩ = some (.slice A0_2 l0_2.length c0_2) := (qaf qbs.out 2).trans rfl; have qg2 : w13.cell? ⟨qcl, 3, none⟩ = some (.int .i64 a0_3) := (qaf qbs.out 3).trans rfl; have qg3 : w13.cell? ⟨qcl, 4, none⟩ = some (.int .i64 a0_4) := (qaf qbs.out 4).trans rfl; have qeM := qaj qbs.out 0; have qeN := qaj qbs.out 1; have qeO := qaj qbs.out 2; have qg4 := qaj qbs.out 3; have qg5 := qaj qbs.out 4) | ((with_reducible refine qaz (f := 79) rfl ?_); refine qbd (some 9) rfl rfl Try.func79 (by kernel_rfl) rfl #[.agg #[.slice A0_0 l0_0.length c0_0, .slice A0_1 l0_1.length c0_1, .slice A0_2 l0_2.length c0_2, .int .i64 a0_3, .int .i64 a0_4]] rfl (by (try simp only [List.map_toArray, List.map_cons, List.map_nil]); first | done | rfl | (simp only [List.length_drop, List.length_take]; rfl)) ?_; (with_reducible refine (qas.calls k _ _ l0_0 _ _ l0_1 _ _ l0_2 a0_3 a0_4 true _ ?side1 ?side2 ?side3 ?side4 ?side5 ?side6 A4.out).mono ?_); (case side1 => repeat (first | exact (Kd.C_below qb9.out HB.out) | (with_reducible refine Kd.C_alloc ?_ _) | (with_reducible refine Kd.C_drewN ?_ _) | (with_reducible refine Kd.C_drew ?_))); (case side2 => exact qcx.out); (case side3 => repeat (first | exact (Kd.C_below qb2.out HB.out) | (with_reducible refine Kd.C_alloc ?_ _) | (with_reducible refine Kd.C_drewN ?_ _) | (with_reducible refine Kd.C_drew ?_))); (case side4 => exact qcj.out); (case side5 => repeat (first | exact (Kd.C_below qb8.out HB.out) | (with_reducible refine Kd.C_alloc ?_ _) | (with_reducible refine Kd.C_drewN ?_ _) | (with_reducible refine Kd.C_drew ?_))); (case side6 => exact qck.out); rintro e w15 ⟨rfl, hb⟩; refine ⟨_, rfl, ?_⟩; have n0_ := qaa.mk (qam (g := qcl) (o := .cells #[.slice A0_0 l0_0.length c0_0, .slice A0_1 l0_1.length c0_1, .slice A0_2 l0_2.length c0_2, .int .i64 a0_3, .int .i64 a0_4] 39 (0, 0)) (by (with_reducible repeat (first | refine qae ?_ _ | refine qai ?_ | refine qad ?_ _)); exact qbs.out) hb); have n1_ := qaa.mk (qap (by repeat (first | (with_reducible first | exact HB.out | apply qac | apply qab | apply qag | refine qah ?_ qdL.out) | exact HB.out)) hb); clear qbs; clear HB; have qbs := n0_; have HB := n1_; clear n0_ n1_; (try clear hb); (try clear hb2); (try clear hk); (try clear hi)) | (go_at_call 34; (with_reducible refine (qaG.calls (l1.length : Int) 1 10 true _ A6.out).mono ?_); rintro e w' ⟨rfl, ⟨nd, rfl⟩⟩) | (go_at_call 80; (with_reducible refine (qaK.calls k _ _ l1 (l1.length : Int) 100000000 true _ ?side1 ?side2 A8.out).mono ?_); (case side1 => repeat (first | exact (Kd.C_below HR1.out (by repeat (first | (with_reducible first | exact HB.out | apply qac | apply qab | apply qag | refine qah ?_ qdL.out) | exact HB.out))) | (with_reducible refine Kd.C_alloc ?_ _) | (with_reducible refine Kd.C_drewN ?_ _) | (with_reducible refine Kd.C_drew ?_))); (case side2 => exact HC1.out); rintro e w' ⟨rfl, ⟨nd, rfl⟩⟩) | (go_at_call 80; (with_reducible refine (qaK.calls k _ _ l2 (l1.length : Int) 100000 true _ ?side1 ?side2 A10.out).mono ?_); (case side1 => repeat (first | exact (Kd.C_below HR2.out (by repeat (first | (with_reducible first | exact HB.out | apply qac | apply qab | apply qag | refine qah ?_ qdL.out) | exact HB.out))) | (with_reducible refine Kd.C_alloc ?_ _) | (with_reducible refine Kd.C_drewN ?_ _) | (with_reducible refine Kd.C_drew ?_))); (case side2 => exact HC2.out); rintro e w' ⟨rfl, ⟨nd, rfl⟩⟩; have qie : w15.cell? ⟨qcl, 0, none⟩ = some (.slice A0_0 l0_0.length c0_0) := (qaf qbs.out 0).trans rfl; have qif : w15.cell? ⟨qcl, 1, none⟩ = some (.slice A0_1 l0_1.length c0_1) := (qaf qbs.out 1).trans rfl; have qig : w15.cell? ⟨qcl, 2, none⟩ = some (.slice A0_2 l0_2.length c0_2) := (qaf qbs.out 2).trans rfl; have qmF : w15.cell? ⟨qcl, 3, none⟩ = some (.int .i64 a0_3) := (qaf qbs.out 3).trans rfl; have qmG : w15.cell? ⟨qcl, 4, none⟩ = some (.int .i64 a0_4) := (qaf qbs.out 4).trans rfl; have qih := qaj qbs.out 0; have qii := qaj qbs.out 1; have qij := qaj qbs.out 2; have qmH := qaj qbs.out 3; have qmI := qaj qbs.out 4) | ((with_reducible refine qaz (f := 81) rfl ?_); refine qbd (some 34) rfl rfl Try.func81 (by kernel_rfl) rfl #[.agg #[.slice A0_0 l0_0.length c0_0, .slice A0_1 l0_1.length c0_1, .slice A0_2 l0_2.length c0_2, .int .i64 a0_3, .int .i64 a0_4], .slice A1 l1.length c1, .slice A2 l2.length c2] rfl (by (try simp only [List.map_toArray, List.map_cons, List.map_nil]); first | done | rfl | (simp only [List.length_drop, List.length_take]; rfl)) ?_; (with_reducible refine (qaF.calls k (fun k_ => k_ < w.heap.size) _ _ l0_0 _ _ l0_1 _ _ l0_2 a0_3 a0_4 _ _ l1 _ _ l2 t466 _ ?side1 ?side2 ?side3 ?side4 ?side5 ?side6 ?side7 ?side8 ?side9 A12.out).mono ?_); (case side1 => exact Kd.V_mk qcx.out (Kd.F_below (Kd.C_F (Kd.heap_int .i64) qb9.out) (by repeat (first | (with_reducible first | exact HB.out | apply qac | apply qab | apply qag | refine qah ?_ qdL.out) | exact HB.out)))); (case side2 => repeat (first | exact (Kd.C_below qb2.out (by repeat (first | (with_reducible first | exact HB.out | apply qac | apply qab | apply qag | refine qah ?_ qdL.out) | exact HB.out))) | (with_reducible refine Kd.C_alloc ?_ _) | (with_reducible refine Kd.C_drewN ?_ _) | (with_reducible refine Kd.C_drew ?_))); (case side3 => exact qcj.out); (case side4 => repeat (first | exact (Kd.C_below qb8.out (by repeat (first | (with_reducible first | exact HB.out | apply qac | apply qab | apply qag | refine qah ?_ qdL.out) | exact HB.out))) | (with_reducible refine Kd.C_alloc ?_ _) | (with_reducible refine Kd.C_drewN ?_ _) | (with_reducible refine Kd.C_drew ?_))); (case side5 => exact qck.out); (case side6 => repeat (first | exact (Kd.C_below HR1.out (by repeat (first | (with_reducible first | exact HB.out | apply qac | apply qab | apply qag | refine qah ?_ qdL.out) | exact HB.out))) | (with_reducible refine Kd.C_alloc ?_ _) | (with_reducible refine Kd.C_drewN ?_ _) | (with_reducible refine Kd.C_drew ?_))); (case side7 => exact HC1.out); (case side8 => repeat (first | exact (Kd.C_below HR2.out (by repeat (first | (with_reducible first | exact HB.out | apply qac | apply qab | apply qag | refine qah ?_ qdL.out) | exact HB.out))) | (with_reducible refine Kd.C_alloc ?_ _) | (with_reducible refine Kd.C_drewN ?_ _) | (with_reducible refine Kd.C_drew ?_))); (case side9 => exact HC2.out); rintro e w17 ⟨v467, rfl, ho0, hb⟩; refine ⟨_, rfl, ?_⟩; have n0_ := qaa.mk (Kd.R_lower (Kd.R_mono (ok' := fun k_ => True) ho0 (fun _ hk_ => trivial)) (qal (by repeat (first | (with_reducible first | exact HB.out | apply qac | apply qab | apply qag | refine qah ?_ qdL.out) | exact HB.out)))); have n1_ := qaa.mk (qam (g := qcl) (o := .cells #[.slice A0_0 l0_0.length c0_0, .slice A0_1 l0_1.length c0_1, .slice A0_2 l0_2.length c0_2, .int .i64 a0_3, .int .i64 a0_4] 39 (0, 0)) (by (with_reducible repeat (first | refine qae ?_ _ | refine qai ?_ | refine qad ?_ _)); exact qbs.out) hb); have n2_ := qaa.mk (qap (by repeat (first | (with_reducible first | exact HB.out | apply qac | apply qab | apply qag | refine qah ?_ qdL.out) | exact HB.out)) hb); clear qbs; clear HB; have qvm := n0_; have qbs := n1_; have HB := n2_; clear n0_ n1_ n2_; (try clear hb); (try clear hb2); (try clear hk); (try clear hi); (try clear ho0)))
     go_ret2
     exact ⟨_, by first | rfl | (simp [qaC, qaB] <;> rfl) | (simp [*, qaC, qaB] <;> rfl), by (with_reducible repeat (first | apply Kd.R_alloc | apply Kd.R_drewN | apply Kd.R_drew)); exact qvm.out, by repeat (first | (with_reducible first | exact HB.out | apply qac | apply qab | apply qag | refine qah ?_ qdL.out) | exact HB.out)⟩
    replace c11 := Bool.eq_false_iff.mpr c11; subst c11
    have H1 : (some (([] : List Int), 92)) = some (r1, r2) := by rw [if_neg (show ¬ (false = true) by decide)] at H; exact H
    clear H; have H := H1; clear H1; simp only [Option.some.injEq, Prod.mk.injEq] at H; obtain ⟨rfl, rfl⟩ := H
    go_enter Try.func26, Try.ntmps26
    go_wp2_with (first | ((with_reducible refine qaN (N := 3) rfl ?_); (try (refine qdG (by rfl) ?_; dsimp only)); refine qba ?hg (N := 3) ?hd (cs := #[.slice A0_0 l0_0.length c0_0, .slice A0_1 l0_1.length c0_1, .slice A0_2 l0_2.length c0_2, .int .i64 a0_3, .int .i64 a0_4]) (t := 39) ?hr ?_; (case hd => rfl); (case hg => rfl); (case hr => first | (go_simp; done) | (go_simp; rfl)); intro qcl hg w18 hbox hb; have n0_ := qaa.mk (qap (by repeat (first | (with_reducible first | exact HB.out | apply qac | apply qab | apply qag) | exact HB.out)) hb); have n1_ := qaa.mk (hbox); have n2_ := qaa.mk ((by rw [hg]; exact (qal (by repeat (first | (with_reducible first | exact HB.out | apply qac | apply qab | apply qag) | exact HB.out))) : w.heap.size ≤ qcl)); have n3_ := qaa.mk ((by rw [hg]; exact (qal (by repeat (first | (with_reducible first | exact HB.out | apply qac | apply qab | apply qag) | exact HB.out))) : w.heap.size ≤ qcl)); clear HB; have HB := n0_; have qbs := n1_; have qnk := n2_; have qdL := n3_; clear n0_ n1_ n2_ n3_; clear hb hbox hg; have qoF : w18.cell? ⟨qcl, 0, none⟩ = some (.slice A0_0 l0_0.length c0_0) := (qaf qbs.out 0).trans rfl; have qoG : w18.cell? ⟨qcl, 1, none⟩ = some (.slice A0_1 l0_1.length c0_1) := (qaf qbs.out 1).trans rfl; have qoH : w18.cell? ⟨qcl, 2, none⟩ = some (.slice A0_2 l0_2.length c0_2) := (qaf qbs.out 2).trans rfl; have qts : w18.cell? ⟨qcl, 3, none⟩ = some (.int .i64 a0_3) := (qaf qbs.out 3).trans rfl; have qtt : w18.cell? ⟨qcl, 4, none⟩ = some (.int .i64 a0_4) := (qaf qbs.out 4).trans rfl; have qoI := qaj qbs.out 0; have qoJ := qaj qbs.out 1; have qoK := qaj qbs.out 2; have qtu := qaj qbs.out 3; have qtv := qaj qbs.out 4) | ((with_reducible refine qaz (f := 79) rfl ?_); refine qbd (some 9) rfl rfl Try.func79 (by kernel_rfl) rfl #[.agg #[.slice A0_0 l0_0.length c0_0, .slice A0_1 l0_1.length c0_1, .slice A0_2 l0_2.length c0_2, .int .i64 a0_3, .int .i64 a0_4]] rfl (by (try simp only [List.map_toArray, List.map_cons, List.map_nil]); first | done | rfl | (simp only [List.length_drop, List.length_take]; rfl)) ?_; (with_reducible refine (qas.calls k _ _ l0_0 _ _ l0_1 _ _ l0_2 a0_3 a0_4 true _ ?side1 ?side2 ?side3 ?side4 ?side5 ?side6 A4.out).mono ?_); (case side1 => repeat (first | exact (Kd.C_below qb9.out HB.out) | (with_reducible refine Kd.C_alloc ?_ _) | (with_reducible refine Kd.C_drewN ?_ _) | (with_reducible refine Kd.C_drew ?_))); (case side2 => exact qcx.out); (case side3 => repeat (first | exact (Kd.C_below qb2.out HB.out) | (with_reducible refine Kd.C_alloc ?_ _) | (with_reducible refine Kd.C_drewN ?_ _) | (with_reducible refine Kd.C_drew ?_))); (case side4 => exact qcj.out); (case side5 => repeat (first | exact (Kd.C_below qb8.out HB.out) | (with_reducible refine Kd.C_alloc ?_ _) | (with_reducible refine Kd.C_drewN ?_ _) | (with_reducible refine Kd.C_drew ?_))); (case side6 => exact qck.out); rintro e w20 ⟨rfl, hb⟩; refine ⟨_, rfl, ?_⟩; have n0_ := qaa.mk (qam (g := qcl) (o := .cells #[.slice A0_0 l0_0.length c0_0, .slice A0_1 l0_1.length c0_1, .slice A0_2 l0_2.length c0_2, .int .i64 a0_3, .int .i64 a0_4] 39 (0, 0)) (by (with_reducible repeat (first | refine qae ?_ _ | refine qai ?_ | refine qad ?_ _)); exact qbs.out) hb); have n1_ := qaa.mk (qap (by repeat (first | (with_reducible first | exact HB.out | apply qac | apply qab | apply qag | refine qah ?_ qdL.out) | exact HB.out)) hb); clear qbs; clear HB; have qbs := n0_; have HB := n1_; clear n0_ n1_; (try clear hb); (try clear hb2); (try clear hk); (try clear hi)) | (go_at_call 34; (with_reducible refine (qaG.calls (l1.length : Int) 1 10 true _ A6.out).mono ?_); rintro e w' ⟨rfl, ⟨nd, rfl⟩⟩) | (go_at_call 80; (with_reducible refine (qaK.calls k _ _ l1 (l1.length : Int) 100000000 true _ ?side1 ?side2 A8.out).mono ?_); (case side1 => repeat (first | exact (Kd.C_below HR1.out (by repeat (first | (with_reducible first | exact HB.out | apply qac | apply qab | apply qag | refine qah ?_ qdL.out) | exact HB.out))) | (with_reducible refine Kd.C_alloc ?_ _) | (with_reducible refine Kd.C_drewN ?_ _) | (with_reducible refine Kd.C_drew ?_))); (case side2 => exact HC1.out); rintro e w' ⟨rfl, ⟨nd, rfl⟩⟩) | (go_at_call 80; (with_reducible refine (qaK.calls k _ _ l2 (l1.length : Int) 100000 false _ ?side1 ?side2 A10.out).mono ?_); (case side1 => repeat (first | exact (Kd.C_below HR2.out (by repeat (first | (with_reducible first | exact HB.out | apply qac | apply qab | apply qag | refine qah ?_ qdL.out) | exact HB.out))) | (with_reducible refine Kd.C_alloc ?_ _) | (with_reducible refine Kd.C_drewN ?_ _) | (with_reducible refine Kd.C_drew ?_))); (case side2 => exact HC2.out); rintro e w' ⟨rfl, ⟨nd, rfl⟩⟩))
    go_ret2
    exact ⟨_, by first | rfl | (simp [qaC, qaB] <;> rfl) | (simp [*, qaC, qaB] <;> rfl), by first | exact Kd.R_nil _ _ _ _ _ | exact Kd.N_nil _ _ _ _ _ | exact Kd.V_nil _ _ _ _ _ | exact Kd.Q_nil _ _ _ _ _ | exact Kd.S_nil _ _ _ _ _, by repeat (first | (with_reducible first | exact HB.out | apply qac | apply qab | apply qag | refine qah ?_ qdL.out) | exact HB.out)⟩
   replace c9 := Bool.eq_false_iff.mpr c9
   subst c9
   have H1 : (some (([] : List Int), 92)) = some (r1, r2) := by rw [if_neg (show ¬ (false = true) by decide)] at H; exact H
   clear H
   have H := H1
   clear H1
   simp only [Option.some.injEq, Prod.mk.injEq] at H
   obtain ⟨rfl, rfl⟩ := H
   go_enter Try.func26, Try.ntmps26
   go_wp2_with (first | ((with_reducible refine qaN (N := 3) rfl ?_); (try (refine qdG (by rfl) ?_; dsimp only)); refine qba ?hg (N := 3) ?hd (cs := #[.slice A0_0 l0_0.length c0_0, .slice A0_1 l0_1.length c0_1, .slice A0_2 l0_2.length c0_2, .int .i64 a0_3, .int .i64 a0_4]) (t := 39) ?hr ?_; (case hd => rfl); (case hg => rfl); (case hr => first | (go_simp; done) | (go_simp; rfl)); intro qcl hg w21 hbox hb; have n0_ := qaa.mk (qap (by repeat (first | (with_reducible first | exact HB.out | apply qac | apply qab | apply qag) | exact HB.out)) hb); have n1_ := qaa.mk (hbox); have n2_ := qaa.mk ((by rw [hg]; exact (qal (by repeat (first | (with_reducible first | exact HB.out | apply qac | apply qab | apply qag) | exact HB.out))) : w.heap.size ≤ qcl)); have n3_ := qaa.mk ((by rw [hg]; exact (qal (by repeat (first | (with_reducible first | exact HB.out | apply qac | apply qab | apply qag) | exact HB.out))) : w.heap.size ≤ qcl)); clear HB; have HB := n0_; have qbs := n1_; have qnk := n2_; have qdL := n3_; clear n0_ n1_ n2_ n3_; clear hb hbox hg; have qhv : w21.cell? ⟨qcl, 0, none⟩ = some (.slice A0_0 l0_0.length c0_0) := (qaf qbs.out 0).trans rfl; have qhw : w21.cell? ⟨qcl, 1, none⟩ = some (.slice A0_1 l0_1.length c0_1) := (qaf qbs.out 1).trans rfl; have qhx : w21.cell? ⟨qcl, 2, none⟩ = some (.slice A0_2 l0_2.length c0_2) := (qaf qbs.out 2).trans rfl; have qx8 : w21.cell? ⟨qcl, 3, none⟩ = some (.int .i64 a0_3) := (qaf qbs.out 3).trans rfl; have qx9 : w21.cell? ⟨qcl, 4, none⟩ = some (.int .i64 a0_4) := (qaf qbs.out 4).trans rfl; have qhy := qaj qbs.out 0; have qhz := qaj qbs.out 1; have qhA := qaj qbs.out 2; have qya := qaj qbs.out 3; have qyb := qaj qbs.out 4) | ((with_reducible refine qaz (f := 79) rfl ?_); refine qbd (some 9) rfl rfl Try.func79 (by kernel_rfl) rfl #[.agg #[.slice A0_0 l0_0.length c0_0, .slice A0_1 l0_1.length c0_1, .slice A0_2 l0_2.length c0_2, .int .i64 a0_3, .int .i64 a0_4]] rfl (by (try simp only [List.map_toArray, List.map_cons, List.map_nil]); first | done | rfl | (simp only [List.length_drop, List.length_take]; rfl)) ?_; (with_reducible refine (qas.calls k _ _ l0_0 _ _ l0_1 _ _ l0_2 a0_3 a0_4 true _ ?side1 ?side2 ?side3 ?side4 ?side5 ?side6 A4.out).mono ?_); (case side1 => repeat (first | exact (Kd.C_below qb9.out HB.out) | (with_reducible refine Kd.C_alloc ?_ _) | (with_reducible refine Kd.C_drewN ?_ _) | (with_reducible refine Kd.C_drew ?_))); (case side2 => exact qcx.out); (case side3 => repeat (first | exact (Kd.C_below qb2.out HB.out) | (with_reducible refine Kd.C_alloc ?_ _) | (with_reducible refine Kd.C_drewN ?_ _) | (with_reducible refine Kd.C_drew ?_))); (case side4 => exact qcj.out); (case side5 => repeat (first | exact (Kd.C_below qb8.out HB.out) | (with_reducible refine Kd.C_alloc ?_ _) | (with_reducible refine Kd.C_drewN ?_ _) | (with_reducible refine Kd.C_drew ?_))); (case side6 => exact qck.out); rintro e w23 ⟨rfl, hb⟩; refine ⟨_, rfl, ?_⟩; have n0_ := qaa.mk (qam (g := qcl) (o := .cells #[.slice A0_0 l0_0.length c0_0, .slice A0_1 l0_1.length c0_1, .slice A0_2 l0_2.length c0_2, .int .i64 a0_3, .int .i64 a0_4] 39 (0, 0)) (by (with_reducible repeat (first | refine qae ?_ _ | refine qai ?_ | refine qad ?_ _)); exact qbs.out) hb); have n1_ := qaa.mk (qap (by repeat (first | (with_reducible first | exact HB.out | apply qac | apply qab | apply qag | refine qah ?_ qdL.out) | exact HB.out)) hb); clear qbs; clear HB; have qbs := n0_; have HB := n1_; clear n0_ n1_; (try clear hb); (try clear hb2); (try clear hk); (try clear hi)) | (go_at_call 34; (with_reducible refine (qaG.calls (l1.length : Int) 1 10 true _ A6.out).mono ?_); rintro e w' ⟨rfl, ⟨nd, rfl⟩⟩) | (go_at_call 80; (with_reducible refine (qaK.calls k _ _ l1 (l1.length : Int) 100000000 false _ ?side1 ?side2 A8.out).mono ?_); (case side1 => repeat (first | exact (Kd.C_below HR1.out (by repeat (first | (with_reducible first | exact HB.out | apply qac | apply qab | apply qag | refine qah ?_ qdL.out) | exact HB.out))) | (with_reducible refine Kd.C_alloc ?_ _) | (with_reducible refine Kd.C_drewN ?_ _) | (with_reducible refine Kd.C_drew ?_))); (case side2 => exact HC1.out); rintro e w' ⟨rfl, ⟨nd, rfl⟩⟩))
   go_ret2
   exact ⟨_, by first | rfl | (simp [qaC, qaB] <;> rfl) | (simp [*, qaC, qaB] <;> rfl), by first | exact Kd.R_nil _ _ _ _ _ | exact Kd.N_nil _ _ _ _ _ | exact Kd.V_nil _ _ _ _ _ | exact Kd.Q_nil _ _ _ _ _ | exact Kd.S_nil _ _ _ _ _, by repeat (first | (with_reducible first | exact HB.out | apply qac | apply qab | apply qag | refine qah ?_ qdL.out) | exact HB.out)⟩
  replace c7 := Bool.eq_false_iff.mpr c7
  subst c7
  have H1 : (some (([] : List Int), 92)) = some (r1, r2) := by rw [if_neg (show ¬ (false = true) by decide)] at H; exact H
  clear H
  have H := H1
  clear H1
  simp only [Option.some.injEq, Prod.mk.injEq] at H
  obtain ⟨rfl, rfl⟩ := H
  go_enter Try.func26, Try.ntmps26
  go_wp2_with (first | ((with_reducible refine qaN (N := 3) rfl ?_); (try (refine qdG (by rfl) ?_; dsimp only)); refine qba ?hg (N := 3) ?hd (cs := #[.slice A0_0 l0_0.length c0_0, .slice A0_1 l0_1.length c0_1, .slice A0_2 l0_2.length c0_2, .int .i64 a0_3, .int .i64 a0_4]) (t := 39) ?hr ?_; (case hd => rfl); (case hg => rfl); (case hr => first | (go_simp; done) | (go_simp; rfl)); intro qcl hg w24 hbox hb; have n0_ := qaa.mk (qap (by repeat (first | (with_reducible first | exact HB.out | apply qac | apply qab | apply qag) | exact HB.out)) hb); have n1_ := qaa.mk (hbox); have n2_ := qaa.mk ((by rw [hg]; exact (qal (by repeat (first | (with_reducible first | exact HB.out | apply qac | apply qab | apply qag) | exact HB.out))) : w.heap.size ≤ qcl)); have n3_ := qaa.mk ((by rw [hg]; exact (qal (by repeat (first | (with_reducible first | exact HB.out | apply qac | apply qab | apply qag) | exact HB.out))) : w.heap.size ≤ qcl)); clear HB; have HB := n0_; have qbs := n1_; have qnk := n2_; have qdL := n3_; clear n0_ n1_ n2_ n3_; clear hb hbox hg; have qik : w24.cell? ⟨qcl, 0, none⟩ = some (.slice A0_0 l0_0.length c0_0) := (qaf qbs.out 0).trans rfl; have qil : w24.cell? ⟨qcl, 1, none⟩ = some (.slice A0_1 l0_1.length c0_1) := (qaf qbs.out 1).trans rfl; have qim : w24.cell? ⟨qcl, 2, none⟩ = some (.slice A0_2 l0_2.length c0_2) := (qaf qbs.out 2).trans rfl; have qyc : w24.cell? ⟨qcl, 3, none⟩ = some (.int .i64 a0_3) := (qaf qbs.out 3).trans rfl; have qyd : w24.cell? ⟨qcl, 4, none⟩ = some (.int .i64 a0_4) := (qaf qbs.out 4).trans rfl; have qin := qaj qbs.out 0; have qio := qaj qbs.out 1; have qip := qaj qbs.out 2; have qye := qaj qbs.out 3; have qyf := qaj qbs.out 4) | ((with_reducible refine qaz (f := 79) rfl ?_); refine qbd (some 9) rfl rfl Try.func79 (by kernel_rfl) rfl #[.agg #[.slice A0_0 l0_0.length c0_0, .slice A0_1 l0_1.length c0_1, .slice A0_2 l0_2.length c0_2, .int .i64 a0_3, .int .i64 a0_4]] rfl (by (try simp only [List.map_toArray, List.map_cons, List.map_nil]); first | done | rfl | (simp only [List.length_drop, List.length_take]; rfl)) ?_; (with_reducible refine (qas.calls k _ _ l0_0 _ _ l0_1 _ _ l0_2 a0_3 a0_4 true _ ?side1 ?side2 ?side3 ?side4 ?side5 ?side6 A4.out).mono ?_); (case side1 => repeat (first | exact (Kd.C_below qb9.out HB.out) | (with_reducible refine Kd.C_alloc ?_ _) | (with_reducible refine Kd.C_drewN ?_ _) | (with_reducible refine Kd.C_drew ?_))); (case side2 => exact qcx.out); (case side3 => repeat (first | exact (Kd.C_below qb2.out HB.out) | (with_reducible refine Kd.C_alloc ?_ _) | (with_reducible refine Kd.C_drewN ?_ _) | (with_reducible refine Kd.C_drew ?_))); (case side4 => exact qcj.out); (case side5 => repeat (first | exact (Kd.C_below qb8.out HB.out) | (with_reducible refine Kd.C_alloc ?_ _) | (with_reducible refine Kd.C_drewN ?_ _) | (with_reducible refine Kd.C_drew ?_))); (case side6 => exact qck.out); rintro e w26 ⟨rfl, hb⟩; refine ⟨_, rfl, ?_⟩; have n0_ := qaa.mk (qam (g := qcl) (o := .cells #[.slice A0_0 l0_0.length c0_0, .slice A0_1 l0_1.length c0_1, .slice A0_2 l0_2.length c0_2, .int .i64 a0_3, .int .i64 a0_4] 39 (0, 0)) (by (with_reducible repeat (first | refine qae ?_ _ | refine qai ?_ | refine qad ?_ _)); exact qbs.out) hb); have n1_ := qaa.mk (qap (by repeat (first | (with_reducible first | exact HB.out | apply qac | apply qab | apply qag | refine qah ?_ qdL.out) | exact HB.out)) hb); clear qbs; clear HB; have qbs := n0_; have HB := n1_; clear n0_ n1_; (try clear hb); (try clear hb2); (try clear hk); (try clear hi)) | (go_at_call 34; (with_reducible refine (qaG.calls (l1.length : Int) 1 10 false _ A6.out).mono ?_); rintro e w' ⟨rfl, ⟨nd, rfl⟩⟩))
  go_ret2
  exact ⟨_, by first | rfl | (simp [qaC, qaB] <;> rfl) | (simp [*, qaC, qaB] <;> rfl), by first | exact Kd.R_nil _ _ _ _ _ | exact Kd.N_nil _ _ _ _ _ | exact Kd.V_nil _ _ _ _ _ | exact Kd.Q_nil _ _ _ _ _ | exact Kd.S_nil _ _ _ _ _, by repeat (first | (with_reducible first | exact HB.out | apply qac | apply qab | apply qag | refine qah ?_ qdL.out) | exact HB.out)⟩
 replace c5 := Bool.eq_false_iff.mpr c5
 subst c5
 have H1 : (some (([] : List Int), 92)) = some (r1, r2) := by rw [if_neg (show ¬ (false = true) by decide)] at H; exact H
 clear H
 have H := H1
 clear H1
 simp only [Option.some.injEq, Prod.mk.injEq] at H
 obtain ⟨rfl, rfl⟩ := H
 go_enter Try.func26, Try.ntmps26
 go_wp2_with (first | ((with_reducible refine qaN (N := 3) rfl ?_); (try (refine qdG (by rfl) ?_; dsimp only)); refine qba ?hg (N := 3) ?hd (cs := #[.slice A0_0 l0_0.length c0_0, .slice A0_1 l0_1.length c0_1, .slice A0_2 l0_2.length c0_2, .int .i64 a0_3, .int .i64 a0_4]) (t := 39) ?hr ?_; (case hd => rfl); (case hg => rfl); (case hr => first | (go_simp; done) | (go_simp; rfl)); intro qcl hg w27 hbox hb; have n0_ := qaa.mk (qap (by repeat (first | (with_reducible first | exact HB.out | apply qac | apply qab | apply qag) | exact HB.out)) hb); have n1_ := qaa.mk (hbox); have n2_ := qaa.mk ((by rw [hg]; exact (qal (by repeat (first | (with_reducible first | exact HB.out | apply qac | apply qab | apply qag) | exact HB.out))) : w.heap.size ≤ qcl)); have n3_ := qaa.mk ((by rw [hg]; exact (qal (by repeat (first | (with_reducible first | exact HB.out | apply qac | apply qab | apply qag) | exact HB.out))) : w.heap.size ≤ qcl)); clear HB; have HB := n0_; have qbs := n1_; have qnk := n2_; have qdL := n3_; clear n0_ n1_ n2_ n3_; clear hb hbox hg; have qia : w27.cell? ⟨qcl, 0, none⟩ = some (.slice A0_0 l0_0.length c0_0) := (qaf qbs.out 0).trans rfl; have qib : w27.cell? ⟨qcl, 1, none⟩ = some (.slice A0_1 l0_1.length c0_1) := (qaf qbs.out 1).trans rfl; have qmr : w27.cell? ⟨qcl, 2, none⟩ = some (.slice A0_2 l0_2.length c0_2) := (qaf qbs.out 2).trans rfl; have qms : w27.cell? ⟨qcl, 3, none⟩ = some (.int .i64 a0_3) := (qaf qbs.out 3).trans rfl; have qmt : w27.cell? ⟨qcl, 4, none⟩ = some (.int .i64 a0_4) := (qaf qbs.out 4).trans rfl; have qic := qaj qbs.out 0; have qid := qaj qbs.out 1; have qmu := qaj qbs.out 2; have qmv := qaj qbs.out 3; have qmw := qaj qbs.out 4) | ((with_reducible refine qaz (f := 79) rfl ?_); refine qbd (some 9) rfl rfl Try.func79 (by kernel_rfl) rfl #[.agg #[.slice A0_0 l0_0.length c0_0, .slice A0_1 l0_1.length c0_1, .slice A0_2 l0_2.length c0_2, .int .i64 a0_3, .int .i64 a0_4]] rfl (by (try simp only [List.map_toArray, List.map_cons, List.map_nil]); first | done | rfl | (simp only [List.length_drop, List.length_take]; rfl)) ?_; (with_reducible refine (qas.calls k _ _ l0_0 _ _ l0_1 _ _ l0_2 a0_3 a0_4 false _ ?side1 ?side2 ?side3 ?side4 ?side5 ?side6 A4.out).mono ?_); (case side1 => repeat (first | exact (Kd.C_below qb9.out HB.out) | (with_reducible refine Kd.C_alloc ?_ _) | (with_reducible refine Kd.C_drewN ?_ _) | (with_reducible refine Kd.C_drew ?_))); (case side2 => exact qcx.out); (case side3 => repeat (first | exact (Kd.C_below qb2.out HB.out) | (with_reducible refine Kd.C_alloc ?_ _) | (with_reducible refine Kd.C_drewN ?_ _) | (with_reducible refine Kd.C_drew ?_))); (case side4 => exact qcj.out); (case side5 => repeat (first | exact (Kd.C_below qb8.out HB.out) | (with_reducible refine Kd.C_alloc ?_ _) | (with_reducible refine Kd.C_drewN ?_ _) | (with_reducible refine Kd.C_drew ?_))); (case side6 => exact qck.out); rintro e w29 ⟨rfl, hb⟩; refine ⟨_, rfl, ?_⟩; have n0_ := qaa.mk (qam (g := qcl) (o := .cells #[.slice A0_0 l0_0.length c0_0, .slice A0_1 l0_1.length c0_1, .slice A0_2 l0_2.length c0_2, .int .i64 a0_3, .int .i64 a0_4] 39 (0, 0)) (by (with_reducible repeat (first | refine qae ?_ _ | refine qai ?_ | refine qad ?_ _)); exact qbs.out) hb); have n1_ := qaa.mk (qap (by repeat (first | (with_reducible first | exact HB.out | apply qac | apply qab | apply qag | refine qah ?_ qdL.out) | exact HB.out)) hb); clear qbs; clear HB; have qbs := n0_; have HB := n1_; clear n0_ n1_; (try clear hb); (try clear hb2); (try clear hk); (try clear hi)))
 go_ret2
 exact ⟨_, by first | rfl | (simp [qaC, qaB] <;> rfl) | (simp [*, qaC, qaB] <;> rfl), by first | exact Kd.R_nil _ _ _ _ _ | exact Kd.N_nil _ _ _ _ _ | exact Kd.V_nil _ _ _ _ _ | exact Kd.Q_nil _ _ _ _ _ | exact Kd.S_nil _ _ _ _ _, by repeat (first | (with_reducible first | exact HB.out | apply qac | apply qab | apply qag | refine qah ?_ qdL.out) | exact HB.out)⟩
end Go.Proofs.Ytmhomdohhihlcaa.P
namespace Go.Proofs.Ytmhomdohhihlcaa.P
open Go.RowKit Go.Maps Go.Proofs.YtmhomdohhihlcaaW.PrintWords Go.Proofs.YtmhomdohhihlcaaW.PrintLast Go.Proofs.YtmhomdohhihlcaaW.PrintMore
theorem qsb : laidOutB Try.prog = true := by kernel_rfl
theorem qhW : Keyed Try.prog 139 := Keyed.of_law (deep_law_laid qsb (m := 2) (by omega) (of_decide_eq_true (by kernel_rfl)) (by kernel_rfl) (by rw [Try.underlying139]))
theorem qpA : Try.prog.keyType 139 = true := by kernel_rfl
theorem qnC : Try.prog.cellsOf 139 = 1 := by kernel_rfl
theorem qul : Try.prog.cellsOf 3 = 1 := by kernel_rfl
theorem qpy : ∃ m, Try.prog.types.size = m + 1 := ⟨Try.prog.types.size - 1, by
 have : 0 < Try.prog.types.size := of_decide_eq_true (by kernel_rfl)
 omega⟩
theorem qk8 {c : Int} (hc : (Lit.int .i64 c).wf = true) : keyOf Try.prog 139 (.agg #[.int .i64 c]) = some (.string (keyBytes [.int .i64 c])) := by
 obtain ⟨m, hm⟩ := qpy
 have hkt := qpA
 unfold keyOf
 simp only [Try.underlying139]
 rw [if_pos (by simp [hkt, Value.formed, Try.underlying139, qnC]), hm]
 unfold Program.keyLits
 simp only [Try.underlying139, Value.cells]
 rw [if_pos (by rw [qnC]; exact ⟨rfl, by simp⟩)]
 simp [qul, Program.keyLits, Try.underlying3, hc]
def qa9.l (x : Int) : Nat → List S136 → Int → Int → Int × Int
 | _, [], a, b => (a, b)
 | i, c :: cs, a, b => if (Go.bits .and .i64 (shr .i64 x (i : Int)) 1 == 1) = true then qa9.l x (i + 1) cs (wrap64 (a + c.f0)) (wrap64 (b + c.f1)) else qa9.l x (i + 1) cs a b
def qa9.s (cells : List S136) (x : Int) : Int × Int := qa9.l x 0 cells 0 0
theorem quR (i : Nat) : (Go.bits .and .i64 (shr .i64 0 (i : Int)) 1 == 1) = false := by
 have : shr .i64 0 (i : Int) = 0 := by simp [shr]
 rw [this]
 rfl
theorem qmk : ∀ (cells : List S136) (i : Nat) (a b : Int), qa9.l 0 i cells a b = (a, b)
 | [], _, _, _ => rfl
 | c :: cs, i, a, b => by rw [qa9.l, if_neg (by rw [quR]; decide)]; exact qmk cs _ _ _
def MapI (W : World) (bm : Nat) (cells : List S136) : Prop :=
 ∃ (es : Array MapEntry) (clock : Nat), W.heap[bm]? = some (.map es clock) ∧ ∀ e ∈ es.toList, ∃ c : Int, (Lit.int .i64 c).wf = true ∧ e.key = .agg #[.int .i64 c] ∧ e.val = .agg #[.int .i64 (qa9.s cells c).1, .int .i64 (qa9.s cells c).2]
theorem MapI.lt {W : World} {bm : Nat} {cells : List S136} (h : MapI W bm cells) : bm < W.heap.size := by
 obtain ⟨es, clock, hb, _⟩ := h
 exact (Array.getElem?_eq_some_iff.1 hb).1
theorem MapI.keep {W W1 : World} {bm : Nat} {cells : List S136} (h : MapI W bm cells) (hk : W1.heap[bm]? = W.heap[bm]?) : MapI W1 bm cells := by
 obtain ⟨es, clock, hb, hs⟩ := h
 exact ⟨es, clock, hk.trans hb, hs⟩
theorem qsA (w : World) : (zeroValue 136).run Try.prog w = .ok (.agg #[.int .i64 0, .int .i64 0]) w := by kernel_rfl
theorem qqY {a b : Int} (h : (Value.agg #[.int .i64 a]) = .agg #[.int .i64 b]) : a = b := by
 injection h with h
 injection h with h
 injection h with h
 injection h
theorem MapI.look {W : World} {bm : Nat} {cells : List S136} (h : MapI W bm cells) {x : Int} (hx : (Lit.int .i64 x).wf = true) :
  ∃ (b : Bool) (a1 a2 : Int), ((b = false ∧ a1 = 0 ∧ a2 = 0) ∨ (b = true ∧ a1 = (qa9.s cells x).1 ∧ a2 = (qa9.s cells x).2)) ∧
   ∀ W1 : World, W1.heap[bm]? = W.heap[bm]? → (Instr.lookup 140 (.map (some bm)) (.agg #[.int .i64 x]) true).run Try.prog W1 = .ok (.tuple #[.agg #[.int .i64 a1, .int .i64 a2], .bool b]) W1 := by
 obtain ⟨es, clock, hb, hs⟩ := h
 have hkey := qk8 hx
 have hks : ∀ e ∈ es.toList, ∃ l, keyOf Try.prog 139 e.key = some l := fun e he => by
  obtain ⟨c, hc, hk, _⟩ := hs e he
  exact ⟨_, by rw [hk]; exact qk8 hc⟩
 by_cases hex : ∃ e ∈ es.toList, e.key = .agg #[.int .i64 x]
 ·
  refine ⟨true, (qa9.s cells x).1, (qa9.s cells x).2, .inr ⟨rfl, rfl, rfl⟩, fun W1 hW => ?_⟩
  have hb1 := hW.trans hb
  rcases qhW.find W1 hkey es.toList hks with ⟨h1, h2⟩ | ⟨j, e0, h1, h2, h3⟩
  ·
   obtain ⟨e, he, hk⟩ := hex
   exact absurd hk (h2 e he)
  ·
   have hm0 : e0 ∈ es.toList := List.mem_of_getElem? h2
   obtain ⟨c, hc, hk, hv⟩ := hs e0 hm0
   have hcx : c = x := qqY (hk.symm.trans h3)
   subst hcx
   simp [Instr.lookup, run_underlying Try.underlying140, MapKept.run_getObj_map hb1, qhW.check W1 _ hkey, h1, Result.andThen, hv]
 ·
  refine ⟨false, 0, 0, .inl ⟨rfl, rfl, rfl⟩, fun W1 hW => ?_⟩
  have hb1 := hW.trans hb
  rcases qhW.find W1 hkey es.toList hks with ⟨h1, h2⟩ | ⟨j, e0, h1, h2, h3⟩
  ·
   simp [Instr.lookup, run_underlying Try.underlying140, MapKept.run_getObj_map hb1, qhW.check W1 _ hkey, h1, Result.andThen, qsA]
  ·
   exact absurd ⟨e0, List.mem_of_getElem? h2, h3⟩ hex
theorem MapI.store {W : World} {bm : Nat} {cells : List S136} (h : MapI W bm cells) {x : Int} (hx : (Lit.int .i64 x).wf = true) :
  ∃ W1, (Instr.mapUpdate 140 (.map (some bm)) (.agg #[.int .i64 x]) (.agg #[.int .i64 (qa9.s cells x).1, .int .i64 (qa9.s cells x).2])).run Try.prog W = .ok () W1 ∧ MapI W1 bm cells ∧ W.grownBy W1 (some bm) := by
 obtain ⟨es, clock, hb, hs⟩ := h
 have hkey := qk8 hx
 have hks : ∀ e ∈ es.toList, ∃ l, keyOf Try.prog 139 e.key = some l := fun e he => by
  obtain ⟨c, hc, hk, _⟩ := hs e he
  exact ⟨_, by rw [hk]; exact qk8 hc⟩
 have hgr : ∀ o, W.grownBy (ChangeMaps.setBlock W bm o) (some bm) := fun o => ⟨rfl, rfl, rfl, by simp [ChangeMaps.setBlock], fun i _ hi => ChangeMaps.heap_setBlock_other hb _ (fun e => hi (by rw [e]))⟩
 rcases qhW.find W hkey es.toList hks with ⟨h1, h2⟩ | ⟨j, e0, h1, h2, h3⟩
 ·
  refine ⟨ChangeMaps.setBlock W bm (.map (es.push ⟨.agg #[.int .i64 x], .agg #[.int .i64 (qa9.s cells x).1, .int .i64 (qa9.s cells x).2], clock⟩) (clock + 1)), ?_, ⟨_, _, ChangeMaps.heap_setBlock_same hb _, fun e he => ?_⟩, hgr _⟩
  ·
   simp [Instr.mapUpdate, run_underlying Try.underlying140, MapKept.run_getObj_map hb, qhW.check W false hkey, h1, MapKept.run_setObj_map _ hb, Result.andThen, ChangeMaps.setBlock]
  ·
   simp only [Array.toList_push, List.mem_append, List.mem_singleton] at he
   rcases he with he | rfl
   ·
    exact hs e he
   ·
    exact ⟨x, hx, rfl, rfl⟩
 ·
  have hj : es[j]? = some e0 := by simpa using h2
  refine ⟨ChangeMaps.setBlock W bm (.map (es.modify j (fun e' => { e' with key := .agg #[.int .i64 x], val := .agg #[.int .i64 (qa9.s cells x).1, .int .i64 (qa9.s cells x).2] })) clock), ?_, ⟨_, _, ChangeMaps.heap_setBlock_same hb _, fun e he => ?_⟩, hgr _⟩
  ·
   simp [Instr.mapUpdate, run_underlying Try.underlying140, MapKept.run_getObj_map hb, qhW.check W false hkey, h1, hj, h3, qhW.stays W hkey, MapKept.run_setObj_map _ hb, Result.andThen, ChangeMaps.setBlock]
  ·
   rw [Array.toList_modify, ChangeMaps.modify_eq_set _ _ _ _ h2] at he
   rcases List.mem_or_eq_of_mem_set he with he | rfl
   ·
    exact hs e he
   ·
    exact ⟨x, hx, rfl, rfl⟩
theorem qgP {P : Program} {ops : Array Oper} {rest : List Oper} {o : Oper} {a : Act} {Q : Exit → Act → World → Prop} {W : World} (hg : o.guard = none) (m x : Operand) (t : TypeId) (hop : o.op = .lookup t m x true) {vm vx v : Value} (hm : a.eval m = vm) (hx : a.eval x = vx)
  (hrun : (Instr.lookup t vm vx true).run P W = .ok v W) (h : wpList P ops Q rest (a.put o.dst v) W) : wpList P ops Q (o :: rest) a W := by
 refine wpList_plain hg fun K' hK' => ?_
 unfold Oper.wp
 simp [execOp, hop, hm, hx, hrun, Result.andThen]
 exact hK' _ _ h
theorem qj4 {P : Program} {ops : Array Oper} {rest : List Oper} {o : Oper} {a : Act} {Q : Exit → Act → World → Prop} {W W1 : World} (hg : o.guard = none) (m x y : Operand) (t : TypeId) (hop : o.op = .mapUpdate t m x y) {vm vx v : Value} (hm : a.eval m = vm) (hx : a.eval x = vx) (hy : a.eval y = v)
  (hrun : (Instr.mapUpdate t vm vx v).run P W = .ok () W1) (h : wpList P ops Q rest (a.put o.dst undef) W1) : wpList P ops Q (o :: rest) a W := by
 refine wpList_plain hg fun K' hK' => ?_
 unfold Oper.wp
 simp [execOp, hop, hm, hx, hy, hrun, Result.andThen]
 exact hK' _ _ h
theorem qum (d : Nat) (w : World) (x0 y0 : Int) :
  (Op.equalIn (d + 2) 139 (.agg #[.int .i64 x0]) (.agg #[.int .i64 y0])).run Try.prog w = .ok (x0 == y0) w := by
 refine qqi Try.underlying139 (by kernel_rfl) ?_
 exact qnB (by rfl) (by go_simp; rfl) (by go_simp; rfl) (by go_simp)
attribute [local go_sem high] qum
theorem qoj (x : Int) (cells : List S136) (i : Nat) (h : i < cells.length) (a b : Int) : qa9.l x i (cells.drop i) a b = if (Go.bits .and .i64 (shr .i64 x (i : Int)) 1 == 1) = true then qa9.l x (i + 1) (cells.drop (i + 1)) (wrap64 (a + (qel cells (i : Int)).f0)) (wrap64 (b + (qel cells (i : Int)).f1)) else qa9.l x (i + 1) (cells.drop (i + 1)) a b := by
 have e : qel cells (i : Int) = cells[i] := by simp [qel, List.getD_eq_getElem?_getD, List.getElem?_eq_getElem h]
 rw [List.drop_eq_getElem_cons h, e]
 rfl
set_option maxHeartbeats 4000000 in
set_option maxRecDepth 100000 in
theorem qkZ.calls (A : Option Addr) (n c bm : Nat) (cells : List S136) (x : Int) (w : World) (hr : Kd.C k136 w A cells.length cells) (hc : cells.length ≤ c) (hx : (Lit.int .i64 x).wf = true) (hm : MapI w bm cells) :
  Calls Try.prog 91 #[.agg #[.slice A cells.length c, .map (some bm)], .agg #[.int .i64 x]] w fun e w' =>
   e = .returned (.agg #[.int .i64 (qa9.s cells x).1, .int .i64 (qa9.s cells x).2]) ∧ MapI w' bm cells ∧ Kept w w' (fun k => k = bm) ∧ Below bm w w' := by
 obtain ⟨b, a1, a2, hcase, hrun⟩ := hm.look hx
 have qru := Try.underlying142
 have qrv := Try.underlying139
 have qpU := Try.underlying136
 have hlt := hm.lt
 cases b with
 | true =>
  obtain ⟨rfl, rfl⟩ : a1 = (qa9.s cells x).1 ∧ a2 = (qa9.s cells x).2 := by simpa using hcase
  have HR := qaa.mk hrun
  clear hrun hcase
  obtain ⟨s1, hs1⟩ : ∃ s1, (qa9.s cells x).1 = s1 := ⟨_, rfl⟩
  obtain ⟨s2, hs2⟩ : ∃ s2, (qa9.s cells x).2 = s2 := ⟨_, rfl⟩
  rw [hs1, hs2] at HR ⊢
  go_enter Try.func91, Try.ntmps91
  go_wp2_with (at_lookup; refine qgP rfl _ _ 140 rfl rfl rfl (HR.out _ ?hw) ?_; (case hw => exact (qac (qac (qac (Below.refl w.heap.size w) _) _) _).block bm hlt))
  refine bodyPost_ret (v := .agg #[.int .i64 s1, .int .i64 s2]) (by simp [results, Try.results91, go_sem]) rfl ⟨rfl, ?_⟩
  have hB := qac (qac (qac (qac (Below.refl w.heap.size w) (.cells #[.slice A cells.length c, .map (some bm)] 142)) (.cells #[.int .i64 x] 139)) (.cells #[.int .i64 s1, .int .i64 s2] 136)) (.cells #[.int .i64 s1, .int .i64 s2] 136)
  exact ⟨hm.keep (hB.block bm hlt), Kept.of_below hB _, hB.mono (by omega)⟩
 | false =>
  obtain ⟨rfl, rfl⟩ : a1 = 0 ∧ a2 = 0 := by simpa using hcase
  have HR := qaa.mk hrun
  have HM := qaa.mk hm
  clear hrun hcase hm
  by_cases hx0 : x = 0
  ·
   subst hx0
   have hs1 : (qa9.s cells 0).1 = 0 := by rw [qa9.s, qmk]
   have hs2 : (qa9.s cells 0).2 = 0 := by rw [qa9.s, qmk]
   rw [hs1, hs2]
   go_enter Try.func91, Try.ntmps91
   go_wp2_with (at_lookup; refine qgP rfl _ _ 140 rfl rfl rfl (HR.out _ ?hw) ?_; (case hw => exact (qac (qac (qac (Below.refl w.heap.size w) _) _) _).block bm hlt))
   refine bodyPost_ret (v := .agg #[.int .i64 0, .int .i64 0]) (by simp [results, Try.results91, go_sem]) rfl ⟨rfl, ?_⟩
   have hB := qac (qac (qac (qac (Below.refl w.heap.size w) (.cells #[.slice A cells.length c, .map (some bm)] 142)) (.cells #[.int .i64 0] 139)) (.cells #[.int .i64 0, .int .i64 0] 136)) (.cells #[.int .i64 0, .int .i64 0] 136)
   exact ⟨HM.out.keep (hB.block bm hlt), Kept.of_below hB _, hB.mono (by omega)⟩
  ·
   have hxb : (x == 0) = false := by simpa using hx0
   have HRd := qaa.mk hr
   have hmx : cells.length ≤ 9223372036854775807 := hr.2.1
   clear hr
   obtain ⟨sm, hsm⟩ : ∃ sm, qa9.s cells x = sm := ⟨_, rfl⟩
   have HSM := qaa.mk hsm
   rw [hsm]
   clear hsm
   go_enter Try.func91, Try.ntmps91
   go_wp2_with (at_lookup; refine qgP rfl _ _ 140 rfl rfl rfl (HR.out _ ?hw) ?_; (case hw => exact (qac (qac (qac (Below.refl w.heap.size w) _) _) _).block bm hlt))
   go_loopg [26] cells.length (fun d v26 wr => ∃ (i : Nat), v26 = .int .i64 (i : Int) ∧ qaa (i + d = cells.length) ∧ qaa (∃ a b, wr.heap[w.heap.size + 1 + 1 + 1]? = some (.cells #[.int .i64 a, .int .i64 b] 136 (0, 0)) ∧ qa9.l x i (cells.drop i) a b = sm) ∧
    qaa (wr.heap[w.heap.size]? = some (.cells #[.slice A cells.length c, .map (some bm)] 142 (0, 0)) ∧ wr.heap[w.heap.size + 1]? = some (.cells #[.int .i64 x] 139 (0, 0)) ∧ wr.heap[w.heap.size + 1 + 1]? = some (.cells #[.int .i64 0, .int .i64 0] 136 (0, 0))) ∧ qaa (Below w.heap.size w wr))
   case atStart =>
    refine ⟨0, rfl, ⟨by omega⟩, ⟨0, 0, ?_, HSM.out⟩, ⟨?_, ?_, ?_⟩, ⟨qac (qac (qac (qac (Below.refl w.heap.size w) _) _) _) _⟩⟩
    ·
     have := World.alloc_heap_new (((w.alloc (.cells #[.slice A cells.length c, .map (some bm)] 142)).alloc (.cells #[.int .i64 x] 139)).alloc (.cells #[.int .i64 0, .int .i64 0] 136)) (.cells #[.int .i64 0, .int .i64 0] 136)
     rwa [World.size_alloc, World.size_alloc, World.size_alloc] at this
    ·
     exact qad (qad (qad (World.alloc_heap_new w _) _) _) _
    ·
     refine qad (qad ?_ _) _; have := World.alloc_heap_new (w.alloc (.cells #[.slice A cells.length c, .map (some bm)] 142)) (.cells #[.int .i64 x] 139)
     rwa [World.size_alloc] at this
    ·
     refine qad ?_ _; have := World.alloc_heap_new ((w.alloc (.cells #[.slice A cells.length c, .map (some bm)] 142)).alloc (.cells #[.int .i64 x] 139)) (.cells #[.int .i64 0, .int .i64 0] 136)
     rwa [World.size_alloc, World.size_alloc] at this
   case round =>
    obtain ⟨i, rfl, HD, HN, HK, HB⟩ := hrel; obtain ⟨a, b, hn, hl⟩ := HN.out; obtain ⟨hb0, hb1, hb2⟩ := HK.out; have hc00 : wr.cell? ⟨w.heap.size, 0, none⟩ = some (.slice A cells.length c) := (qaf hb0 0).trans rfl; have hc01 : wr.cell? ⟨w.heap.size, 1, none⟩ = some (.map (some bm)) := (qaf hb0 1).trans rfl; have hc1 : wr.cell? ⟨w.heap.size + 1, 0, none⟩ = some (.int .i64 x) := (qaf hb1 0).trans rfl; have hc20 : wr.cell? ⟨w.heap.size + 1 + 1, 0, none⟩ = some (.int .i64 0) := (qaf hb2 0).trans rfl; have hc21 : wr.cell? ⟨w.heap.size + 1 + 1, 1, none⟩ = some (.int .i64 0) := (qaf hb2 1).trans rfl; have hf20 := qaj hb2 0; have hf21 := qaj hb2 1; have hc30 : wr.cell? ⟨w.heap.size + 1 + 1 + 1, 0, none⟩ = some (.int .i64 a) := (qaf hn 0).trans rfl; have hc31 : wr.cell? ⟨w.heap.size + 1 + 1 + 1, 1, none⟩ = some (.int .i64 b) := (qaf hn 1).trans rfl; have hf30 := qaj hn 0; have hf31 := qaj hn 1; have hlw := qaL hn; have hbx : ∃ W, W = wr := ⟨_, rfl⟩; have HN' := qaa.mk hn; have HL := qaa.mk hl; have HB0 := qaa.mk hb0; have HB1 := qaa.mk hb1; have HB2 := qaa.mk hb2; clear hn hl hb0 hb1 hb2 hbx HN HK
    by_cases hi : i < cells.length
    ·
     obtain ⟨d, rfl⟩ : ∃ d, gk = d + 1 := ⟨gk - 1, by have := HD.out; omega⟩; obtain ⟨ad, ea, hx0', hx1'⟩ := qop HRd.out (i : Int) (by omega) (by omega); subst ea; replace hx0' := (HB.out.cell (World.block_lt_of_cell? w _ hx0')).trans hx0'; replace hx1' := (HB.out.cell (World.block_lt_of_cell? w _ hx1')).trans hx1'; rw [Int.toNat_natCast] at hx0' hx1'; have hst := qoj x cells i hi a b; obtain ⟨ji4, hji4⟩ : ∃ j_ : Int, (shr .i64 x (i : Int)) = j_ := ⟨_, rfl⟩; rw [hji4] at hst; have hji4_ : (x / 2 ^ min ((i : Int)).toNat 64) = ji4 := hji4; have hji4z : (i : Int) ≤ 64 → (x / 2 ^ ((i : Int)).toNat) = ji4 := qqs hji4; rw [Int.toNat_natCast] at hji4_ hji4z; clear hji4; obtain ⟨e0, he0⟩ : ∃ e0, (qel cells (i : Int)).f0 = e0 := ⟨_, rfl⟩; obtain ⟨e1, he1⟩ : ∃ e1, (qel cells (i : Int)).f1 = e1 := ⟨_, rfl⟩; rw [he0, he1] at hst; rw [he0] at hx0'; rw [he1] at hx1'; clear he0 he1; have hBa := qac (Below.refl wr.heap.size wr) (.cells #[.int .i64 e0, .int .i64 e1] 136); have HBa := qaa.mk hBa; have ha1 : (wr.alloc (.cells #[.int .i64 e0, .int .i64 e1] 136)).cell? ⟨w.heap.size + 1, 0, none⟩ = some (.int .i64 x) := (qaf (qam HB1.out hBa) 0).trans rfl; have ha30 : (wr.alloc (.cells #[.int .i64 e0, .int .i64 e1] 136)).cell? ⟨w.heap.size + 1 + 1 + 1, 0, none⟩ = some (.int .i64 a) := (qaf (qam HN'.out hBa) 0).trans rfl; have ha31 : (wr.alloc (.cells #[.int .i64 e0, .int .i64 e1] 136)).cell? ⟨w.heap.size + 1 + 1 + 1, 1, none⟩ = some (.int .i64 b) := (qaf (qam HN'.out hBa) 1).trans rfl; have qDw := qaj (qam HN'.out hBa) 0; have qDx := qaj (qam HN'.out hBa) 1; clear hBa hc00 hc01 hc20 hc21 hf20 hf21
     by_cases hbit : (Go.bits .and .i64 ji4 1 == 1) = true
     ·
      rw [if_pos hbit] at hst; have HL2 := qaa.mk (hst.symm.trans HL.out); clear hst
      go_wp2
      go_roundg d
      case measure => omega
      case rel =>
       refine ⟨i + 1, by simp, ⟨by have := HD.out; omega⟩, ⟨_, _, qad (qaE (qaE HN'.out 0 _ rfl) 1 _ rfl) _, HL2.out⟩, ⟨?_, ?_, ?_⟩, ⟨qac (qah (qah HB.out (by omega)) (by omega)) _⟩⟩
       ·
        exact qad (qao (qao HB0.out (p := ⟨w.heap.size + 1 + 1 + 1, 0, none⟩) (by simp; omega) _) (p := ⟨w.heap.size + 1 + 1 + 1, 1, none⟩) (by simp; omega) _) _
       ·
        exact qad (qao (qao HB1.out (p := ⟨w.heap.size + 1 + 1 + 1, 0, none⟩) (by simp) _) (p := ⟨w.heap.size + 1 + 1 + 1, 1, none⟩) (by simp) _) _
       ·
        exact qad (qao (qao HB2.out (p := ⟨w.heap.size + 1 + 1 + 1, 0, none⟩) (by simp) _) (p := ⟨w.heap.size + 1 + 1 + 1, 1, none⟩) (by simp) _) _
     ·
      replace hbit := Bool.eq_false_iff.mpr hbit; rw [if_neg (by rw [hbit]; decide)] at hst; have HL2 := qaa.mk (hst.symm.trans HL.out); clear hst
      go_wp2
      go_roundg d
      case measure => omega
      case rel =>
       exact ⟨i + 1, by simp, ⟨by have := HD.out; omega⟩, ⟨_, _, qad HN'.out _, HL2.out⟩, ⟨qad HB0.out _, qad HB1.out _, qad HB2.out _⟩, ⟨qac HB.out _⟩⟩
    ·
     have hil : i = cells.length := by have := HD.out; omega
     subst hil
     have hfin : (a, b) = sm := by
      have h5 := HL.out; rw [List.drop_length] at h5
      exact h5
     have HSM2 := qaa.mk (show qa9.s cells x = (a, b) by rw [hfin]; exact HSM.out); subst hfin; clear HL HSM; obtain ⟨W1, qpV, hm1, hg1⟩ := (HM.out.keep (HB.out.block bm hlt)).store hx; rw [HSM2.out] at qpV
     have hne : ∀ k, w.heap.size ≤ k → some k ≠ some bm := fun k hk e => by injection e with e; omega
     have kp : ∀ {g : Nat} {o : Obj}, w.heap.size ≤ g → wr.heap[g]? = some o → W1.heap[g]? = some o := fun {g o} hg ho => (hg1.block g (Array.getElem?_eq_some_iff.1 ho).1 (hne g hg)).trans ho
     have hd30 : W1.cell? ⟨w.heap.size + 1 + 1 + 1, 0, none⟩ = some (.int .i64 a) := (qaf (kp (by omega) HN'.out) 0).trans rfl; have hd31 : W1.cell? ⟨w.heap.size + 1 + 1 + 1, 1, none⟩ = some (.int .i64 b) := (qaf (kp (by omega) HN'.out) 1).trans rfl; have hd20 : W1.cell? ⟨w.heap.size + 1 + 1, 0, none⟩ = some (.int .i64 0) := (qaf (kp (by omega) HB2.out) 0).trans rfl; have hd21 : W1.cell? ⟨w.heap.size + 1 + 1, 1, none⟩ = some (.int .i64 0) := (qaf (kp (by omega) HB2.out) 1).trans rfl; have qDy := qaj (kp (by omega) HB2.out) 0; have qDz := qaj (kp (by omega) HB2.out) 1; have HG1 := qaa.mk hg1; have HM1 := qaa.mk hm1; have HRU := qaa.mk qpV; have HF2 := qaa.mk (kp (by omega) HB2.out); clear hg1 hm1 qpV kp hne
     go_wp2_with (at_mapUpdate; refine qj4 rfl _ _ _ 140 rfl rfl rfl rfl HRU.out ?_)
     refine bodyPost_ret (v := .agg #[.int .i64 a, .int .i64 b]) ?_ rfl ⟨rfl, ?_⟩
     ·
      refine (results_cell_row rfl _ _ (w.heap.size + 1 + 1) 136 #[.int .i64 a, .int .i64 b] (0, 0) _ rfl (qaE (qaE HF2.out 0 _ rfl) 1 _ rfl) Try.underlying136 rfl (by kernel_rfl))
     ·
      have hK1 : Kept w W1 (fun k => k = bm) := (Kept.of_below HB.out _).of_grown HG1.out (fun k e => .inl (by cases e; rfl)); have hB1 : Below bm w W1 := (HB.out.mono (by omega)).grown HG1.out (by omega) (fun k e => by cases e; omega); refine ⟨HM1.out.keep ?_, ?_, ?_⟩
      ·
       exact (Below.heap_setCell _ _ _ bm (by simp; omega)).trans (Below.heap_setCell _ _ _ bm (by simp; omega))
      ·
       exact (hK1.setCell (.inr (by simp; omega)) _).setCell (.inr (by simp; omega)) _
      ·
       exact Below.setCell (Below.setCell hB1 (p := ⟨w.heap.size + 1 + 1, 0, none⟩) (by show bm ≤ w.heap.size + 1 + 1; omega) _) (p := ⟨w.heap.size + 1 + 1, 1, none⟩) (by show bm ≤ w.heap.size + 1 + 1; omega) _
end Go.Proofs.Ytmhomdohhihlcaa.P
namespace Go.Proofs.Ytmhomdohhihlcaa.P
open Go.RowKit Go.Proofs.YtmhomdohhihlcaaW.PrintWords Go.Proofs.YtmhomdohhihlcaaW.PrintLast Go.Proofs.YtmhomdohhihlcaaW.PrintMore
section
variable {l n : Nat} {P : Program} {ops : Array Oper} {Q : Exit → Act → World → Prop}
theorem qk7 {o : Oper} {a : Act} {w : World} {K : Act → World → Prop} (ho : ∀ c, o.op ≠ .defer c) (h : o.wp P a w K Q) : o.wpIn (Fence.wide.inRound l) n P a w K Q := by
 unfold Oper.wp at h
 refine ⟨fun f _ => trivial, ?_⟩
 rw [Oper.semAt_plain _ _ _ ho]
 generalize (execOp a.eval o).run P w = r at *
 cases r with
 | ok x w' =>
  cases x <;> simp only [Oper.upon, Oper.uponIn] at h ⊢ <;>
   first
    | exact h
    | exact ⟨fun e => by simp [Fence.wide] at e, CallsIn.inRound l (callsIn_wide.2 h)⟩
    | exact ⟨fun e => by simp [Fence.wide] at e, fun c cs _ => let ⟨v, w', r, s⟩ := h c cs; ⟨v, w', r, stepsIn_wide.2 s⟩⟩
 | halt x w' => cases x <;> simp only [Oper.upon, Oper.uponIn] at h ⊢ <;> exact h
def qmp (ops : Array Oper) : Prop := ∀ (i : Nat) (o : Oper), ops[i]? = some o → ∀ c, o.op ≠ .defer c
theorem qpN {ops : Array Oper} (h : ops.all (fun o => match o.op with | .defer _ => false | _ => true) = true) : qmp ops := by
 intro i o ho c hc
 have hi := (Array.getElem?_eq_some_iff.1 ho).1
 have := Array.all_eq_true.1 h i hi
 rw [(Array.getElem?_eq_some_iff.1 ho).2, hc] at this
 cases this
theorem qpH {i : Nat} {a : Act} {w : World} {K : Act → World → Prop} (hno : ¬ LetsOut Q) (hd : qmp ops) (h : wpOp P ops Q i K a w) : wpOpIn (Fence.wide.inRound l) n P ops Q i K a w := by
 unfold wpOp at h
 unfold wpOpIn
 split
 ·
  simpa [*] using h
 ·
  rename_i o ho
  simp only [ho] at h
  split
  ·
   rename_i hw
   simp only [hw, if_true] at h
   rcases h with h | ⟨_, h⟩
   ·
    exact qk7 (hd i o ho) h
   ·
    exact absurd h hno
  ·
   rename_i hw
   simp only [hw] at h
   exact ⟨fun _ _ => trivial, h⟩
theorem qnR {md : Region.Mode} (hno : ¬ LetsOut Q) (hd : qmp ops) : ∀ (fuel : Nat) (listed : Array Bool) (a : Act) (w : World), wpAny P md ops Q fuel listed a w → wpAnyIn (Fence.wide.inRound l) n P md ops Q fuel listed a w := by
 intro fuel
 induction fuel with
 | zero => exact fun _ _ _ h => h
 | succ fuel ih =>
  intro listed a w h
  exact ⟨h.1, fun i hi => qpH hno hd (wpOp_mono (fun a w => ih _ a w) (h.2 i hi))⟩
theorem qhn (hno : ¬ LetsOut Q) : ∀ (l1 : List Oper) (a : Act) (w : World), (∀ o ∈ l1, ∀ c, o.op ≠ .defer c) → wpList P ops Q l1 a w → wpListIn (Fence.wide.inRound l) n P ops Q l1 a w
 | [], _, _, _, h => h
 | o :: rest, a, w, hd, h => by
  unfold wpList at h
  unfold wpListIn
  split
  ·
   rename_i hw
   simp only [hw, if_true] at h
   rcases h with h | ⟨_, h⟩
   ·
    exact Oper.wpIn_mono (fun a w hh => qhn hno rest a w (fun o ho => hd o (List.mem_cons_of_mem _ ho)) hh) (qk7 (hd o List.mem_cons_self) h)
   ·
    exact absurd h hno
  ·
   rename_i hw
   rw [if_neg hw] at h
   exact ⟨fun _ _ => trivial, qhn hno rest _ w (fun o ho => hd o (List.mem_cons_of_mem _ ho)) h⟩
theorem qhj {id : Nat} {a : Act} {w : World} (hm : P.follows .mixedOrders = true) (hno : ¬ LetsOut Q) (hd : ops.all (fun o => match o.op with | .defer _ => false | _ => true) = true)
  (h : wpAny P .any ops Q ops.size (Array.replicate ops.size false) a { w with drawn := w.drawn + 1 }) : (Code.region id ops true).wpIn (Fence.wide.inRound l) n P Q a w :=
 wpIn_region_any hm (qnR hno (qpN hd) _ _ _ _ h)
theorem qm8 {id : Nat} {l1 : List Oper} {a : Act} {w : World} (hno : ¬ LetsOut Q) (hd : l1.all (fun o => match o.op with | .defer _ => false | _ => true) = true) (h : wpList P l1.toArray Q l1 a w) : (Code.region id l1.toArray false).wpIn (Fence.wide.inRound l) n P Q a w :=
 wpIn_region_lit (qhn hno l1 a w (fun o ho c hc => by have := List.all_eq_true.1 hd o ho; rw [hc] at this; cases this) h)
end
structure qcz (B : Nat) (W W' : World) : Prop where
 size : W.heap.size ≤ W'.heap.size
 same : ∀ (b : Nat) (cs : Array Value) (t : Nat), B ≤ b → t ≠ 25 → W.heap[b]? = some (.cells cs t (0, 0)) → W'.heap[b]? = some (.cells cs t (0, 0))
namespace qcz
variable {B : Nat} {W W1 W2 : World}
theorem refl (B : Nat) (W : World) : qcz B W W := ⟨Nat.le_refl _, fun _ _ _ _ _ h => h⟩
theorem trans (h : qcz B W W1) (k : qcz B W1 W2) : qcz B W W2 := ⟨Nat.le_trans h.size k.size, fun b cs t hb ht hk => k.same b cs t hb ht (h.same b cs t hb ht hk)⟩
theorem of_grown (h : W.grownBy W1 none) : qcz B W W1 := ⟨h.size, fun b cs t _ _ hk => (h.block b (Array.getElem?_eq_some_iff.1 hk).1 (by simp)).trans hk⟩
theorem put (l : Nat) (o o' : Obj) (hl : W.heap[l]? = some o) (ho : o.isCells = false) : qcz B W (W.putObj l o') :=
 ⟨by simp, fun b cs t _ _ hk => by
  by_cases e : b = l
  ·
   subst e; rw [hl] at hk; cases hk; cases ho
  ·
   exact (World.putObj_heap_other e).trans hk⟩
end qcz
theorem qki {W W1 : World} {B : Nat} {v : Value} {xs : List Int} {ok : Nat → Prop} (h : Kd.R (Kd.int .i64) 3 W B ok v xs) (k : qcz B W W1) : Kd.R (Kd.int .i64) 3 W1 B ok v xs :=
 Kd.R_mono (Kd.R_move (Kd.R_bound h) (fun b hb => by
  obtain ⟨_, h1, h2, q, hq, cs, hc⟩ := hb
  have hq3 : q = 3 := by simpa [Kd.int, Kd.scalar] using hq
  subst hq3
  rw [hc]
  exact k.same b cs 3 h1 (by decide) hc)) (fun _ hb => hb.1)
def qj6 (n : Nat) (P : Program) (g : Nat) (lb : Array Value) (B : Nat) (xs : List (List Int)) (w : World) : Prop :=
 ∀ (l : Nat) (J : List (List Int) → World → Prop) (W : World), Below w.heap.size w W →
  (∀ W1 W2 row, J [] W1 → W1.grownBy W2 row → (∀ r, row = some r → W.heap.size ≤ r) → J [] W2) →
  (∀ pre W1 W2, J pre W1 → W1.grownBy W2 none → J pre W2) →
  (∀ pre v x W1, J pre W1 → pre ++ [x] <+: xs → Kd.R (Kd.int .i64) 3 W1 B (fun _ => True) v x → YieldAt Fence.wide (n - 1) P l #[v] W1 fun e W' => e = .returned (.bool true) ∧ J (pre ++ [x]) W' ∧ qcz B W1 W') →
  J [] W → CallsIn Fence.wide n P g (#[.func (.yield l) #[] #[]] ++ lb) W fun e W' => (∃ v, e = .returned v) ∧ J xs W'
def qnN (B Bl : Nat) (I : List (List Int) → World → Prop) (xs : List (List Int)) (W : World) : Exit → Act → World → Prop
 | .normal, _, W' => KeepsFrom Bl W W' ∧ qcz B W W' ∧ I xs W'
 | _, _, _ => False
theorem qmj {n : Nat} {P : Program} {g : Operand} {p : Tmp} {assign body : Code} {Q : Exit → Act → World → Prop} {a : Act} {w : World}
  {gf : Nat} {lb : Array Value} (hg : a.eval g = .func (.func gf) #[] lb) (eg : ∀ args w, (callFunc gf args).run P w = .ok (.enter gf args) w)
  {B : Nat} {xs : List (List Int)} {w0 : World} (hseq : qj6 (n - 1) P gf lb B xs w0) (hb0 : Below w0.heap.size w0 w)
  (I : List (List Int) → World → Prop) (hI : OwnFrom w.heap.size I) (hI0 : ∀ W1 W2 row, I [] W1 → W1.grownBy W2 row → (∀ r, row = some r → w.heap.size ≤ r) → I [] W2) (h0 : I [] w) (a₁ : Value → Act)
  (hassign : ∀ (l : Nat) (v : Value) (W : World) (K : Act → World → Prop), K (a₁ v) W →
   assign.wpIn (Fence.wide.inRound l) (n - 1 - 1) P (Exit.then K (fun _ _ _ => False)) { tmps := (#[p].zip #[v]).foldl (fun t (p, v) => t.setIfInBounds p v) a.tmps, defers := [] } W)
  (hbody : ∀ (l : Nat) (pre : List (List Int)) (v : Value) (x : List Int) (W : World), I pre W → pre ++ [x] <+: xs → Kd.R (Kd.int .i64) 3 W B (fun _ => True) v x → body.wpIn (Fence.wide.inRound l) (n - 1 - 1) P (qnN B w.heap.size I (pre ++ [x]) W) (a₁ v) W)
  (hdone : ∀ (D : Nat) (W : World), w.heap.size ≤ D → I xs W → W.heap[D]? = some (.deferred (some [])) → Q .normal { a with defers := { target := .collected D, args := #[] } :: a.defers } W) :
  (Code.rangeFunc g #[p] assign body).wpIn Fence.wide n P Q a w := by
 refine wpIn_rangeFunc ?_
 intro fn hfn
 rw [show Fence.wide.round = none from rfl]
 obtain ⟨rec, hrec⟩ : ∃ rec : LoopState → Option Code → Loop, rec = fun st pe => { state := st, pending := pe, fn, tmps := a.tmps, params := #[p], assign, body, defers := w.heap.size } := ⟨_, rfl⟩
 obtain ⟨W1, hW1⟩ : ∃ W1, (w.alloc (.deferred (some []))).alloc (.loop (rec .ready none)) = W1 := ⟨_, rfl⟩
 have hL1 : W1.heap[w.heap.size + 1]? = some (.loop (rec .ready none)) := by
  rw [← hW1]; have := World.alloc_heap_new (w.alloc (.deferred (some []))) (.loop (rec .ready none)); rwa [World.size_alloc] at this
 have hK1 : W1.heap[w.heap.size]? = some (.deferred (some [])) := by
  rw [← hW1]; exact (Below.heap_alloc _ _ _ (by simp)).trans (World.alloc_heap_new w _)
 have hs1 : W1.heap.size = w.heap.size + 2 := by rw [← hW1]; simp
 have hI1 : I [] W1 := by rw [← hW1]; exact hI.alloc _ (hI.alloc _ h0)
 have hb1 : Below w0.heap.size w0 W1 := by
  rw [← hW1]; exact hb0.trans ((((Below.refl _ w).alloc (Nat.le_refl _) _).alloc (by simp) _).mono hb0.size)
 refine ⟨w.heap.size + 1, [{ target := .collected w.heap.size, args := #[] }], W1, { target := .fn (.func gf) lb, args := #[.func (.yield (w.heap.size + 1)) #[] #[]] }, W1, gf,
  #[.func (.yield (w.heap.size + 1)) #[] #[]] ++ lb, W1, ?_, ?_, ?_, ?_, fun e => by simp [Fence.wide] at e, ?_⟩
 ·
  rw [← hW1, hrec]; exact run_enterLoop_outer _ _ _ _ _
 ·
  simp only [resolve, hg]
  simp [go_sem]
 ·
  intro f' hf'; trivial
 ·
  simp [invoke, go_sem, eg]
 ·
  refine (hseq (w.heap.size + 1)
   (fun pre W => I pre W ∧ W.heap[w.heap.size + 1]? = some (.loop (rec .ready none)) ∧ W.heap[w.heap.size]? = some (.deferred (some [])))
   W1 hb1
   (fun A C row hs hg' hr => ?_) (fun pre A C hs hg' => ?_) ?_ ⟨hI1, hL1, hK1⟩).mono ?_
  ·
   have k1 : ∀ k o, k < w.heap.size + 2 → A.heap[k]? = some o → C.heap[k]? = some o := fun k o hk ho =>
    (hg'.block k (Array.getElem?_eq_some_iff.1 ho).1 (fun e => by have := hr k e.symm; omega)).trans ho
   exact ⟨hI0 A C row hs.1 hg' (fun r e => by have := hr r e; omega), k1 _ _ (by omega) hs.2.1, k1 _ _ (by omega) hs.2.2⟩
  ·
   have k1 : ∀ k o, A.heap[k]? = some o → C.heap[k]? = some o := fun k o ho => (hg'.block k (Array.getElem?_eq_some_iff.1 ho).1 (by simp)).trans ho
   exact ⟨hI pre A C none hs.1 hg' (fun r e => by cases e), k1 _ _ hs.2.1, k1 _ _ hs.2.2⟩
  ·
   rintro pre v x W ⟨hi, hl, hk⟩ hpre hrow
   have hlt : w.heap.size + 1 < W.heap.size := (Array.getElem?_eq_some_iff.1 hl).1
   have hy := run_yield (P := P) (args := #[v]) hl (by rw [hrec]; rfl)
   rw [hrec] at hy
   refine ⟨fn, _, assign, body, hy, roundIn_of_wpIn hfn (hassign _ v W _ ⟨_, run_beginRound hl (by rw [hrec]), ?_⟩)⟩
   have hl2 : (W.putObj (w.heap.size + 1) (.loop { rec .ready none with state := .busy })).heap[w.heap.size + 1]? = some (.loop { rec .ready none with state := .busy }) := World.putObj_heap_same hlt
   have hk2 : (W.putObj (w.heap.size + 1) (.loop { rec .ready none with state := .busy })).heap[w.heap.size]? = some (.deferred (some [])) := (World.putObj_heap_other (by omega)).trans hk
   have hw2 : qcz B W (W.putObj (w.heap.size + 1) (.loop { rec .ready none with state := .busy })) := .put _ _ _ hl rfl
   refine wpIn_mono (hbody _ pre v x _ (hI.putObj _ hi (by omega) hl rfl) hpre (qki hrow hw2)) ?_
   rintro e a3 W3 hp
   cases e with
   | normal =>
    obtain ⟨hk3, hkp3, hi3⟩ := hp; have hl3 := hk3.same _ _ (by omega) hl2 rfl; have hr := run_endRound (P := P) none hl3; rw [hrec] at hr; refine ⟨_, _, hr, ?_⟩; rw [hrec] at hl3; refine ⟨rfl, ⟨hI.putObj _ hi3 (by omega) hl3 rfl, ?_, (World.putObj_heap_other (by omega)).trans (hk3.same _ _ (Nat.le_refl _) hk2 rfl)⟩, (hw2.trans hkp3).trans (.put _ _ _ hl3 rfl)⟩; rw [hrec]
    exact World.putObj_heap_same (Array.getElem?_eq_some_iff.1 hl3).1
   | ret => exact hp.elim
   | exit id => exact hp.elim
   | goto t => exact hp.elim
   | panic ch => exact hp.elim
   | outgrown => exact hp.elim
  ·
   rintro e W2 ⟨⟨v, rfl⟩, hi, hl, hk⟩
   exact ⟨none, _, by have := run_endLoop (P := P) hl (by rw [hrec]; simp); rw [hrec] at this; exact this, hdone _ _ (Nat.le_refl _) (hI.putObj _ hi (by omega) hl rfl) ((World.putObj_heap_other (by omega)).trans hk)⟩
end Go.Proofs.Ytmhomdohhihlcaa.P
namespace Go.Proofs.Ytmhomdohhihlcaa.P
open Go.RowKit Go.Shelf Go.Proofs.YtmhomdohhihlcaaW.PrintWords Go.Proofs.YtmhomdohhihlcaaW.PrintLast Go.Proofs.YtmhomdohhihlcaaW.PrintMore
attribute [local go_sem] Oper.semAt_some
attribute [-go_sem] Builtin.append_
def qf5 : Nat → Int → List Int → List (List Int)
 | 0, left, b => [b ++ [left]]
 | m + 1, left, b => (List.range (left.toNat + 1)).flatMap fun (n : Nat) => qf5 m (left - (n : Int)) (b ++ [(n : Int)])
theorem qkX {W : World} {B c : Nat} {A : Option Addr} {mix : List Int} (h : Kd.R (Kd.int .i64) 3 W B (fun _ => True) (.slice A mix.length c) mix) (hB : B ≤ W.heap.size) (hl : mix.length ≤ 10) (x : Int) :
  ∃ v' w', (Builtin.append_ #[37, 37] 37 #[.slice A mix.length mix.length, .slice (some ⟨W.heap.size, 0, none⟩) 1 1]).run Try.prog (W.alloc (.cells #[.int .i64 x] 3)) = .ok v' w' ∧
   Kd.R (Kd.int .i64) 3 w' B (fun _ => True) v' (mix ++ [x]) ∧ W.grownBy w' none := by
 have hC := (Kd.R_reads' h).2.2
 have hinf : (Try.prog.info? 3).map (fun i => (i.zero, i.size, i.bytes)) = some (some (.int .i64 0), 1, 8) := by kernel_rfl
 obtain ⟨i0, hi, hz0, hz1, hz2⟩ := info_parts hinf
 have hb1 : Below W.heap.size W (W.alloc (.cells #[.int .i64 x] 3)) := (Below.refl _ W).alloc (Nat.le_refl _) _
 have hnews : ∀ j u, [Value.int .i64 x][j]? = some u → (W.alloc (.cells #[.int .i64 x] 3)).cell? (Addr.add ⟨W.heap.size, 0, none⟩ j) = some u := by
  intro j u hj
  have hj0 : j = 0 := by
   have := (List.getElem?_eq_some_iff.1 hj).1
   simpa using this
  subst hj0
  rw [show Addr.add ⟨W.heap.size, 0, none⟩ 0 = (⟨W.heap.size, 0, none⟩ : Addr) by simp [Addr.add]]
  rw [← hj]
  exact (qaf (World.alloc_heap_new W _) 0).trans rfl
 have fin : ∀ (v' : Value) (w' : World) (b0 : Nat), B ≤ b0 → w'.ownsRow b0 3 1 v' (mix.length + 1) (mix.map (Value.int .i64) ++ [.int .i64 x]) → (W.alloc (.cells #[.int .i64 x] 3)).grownBy w' none → Kd.R (Kd.int .i64) 3 w' B (fun _ => True) v' (mix ++ [x]) ∧ W.grownBy w' none := by
  intro v' w' b0 hb0 ho hg
  refine ⟨Kd.R_of_own (qjP ?_ hb0) (fun _ _ => trivial), (World.grownBy_alloc W _ none).trans hg⟩
  have e1 : (mix ++ [x]).length = mix.length + 1 := by simp
  have e2 : encs (Value.int .i64) (mix ++ [x]) = mix.map (Value.int .i64) ++ [.int .i64 x] := by simp [encs]
  rw [e1, e2]
  exact ho
 cases A with
 | none =>
  have hm : mix = [] := by
   by_cases hz : 0 < mix.length
   ·
    obtain ⟨ad, e, _⟩ := qi8 (W := W) hC (Below.refl _ _) (by simpa using hz); cases e
   ·
    exact List.eq_nil_of_length_eq_zero (by omega)
  subst hm
  obtain ⟨v', w', hrun, r1, r2, _⟩ := run_append_own (P := Try.prog) (W.alloc (.cells #[.int .i64 x] 3)) (W.alloc (.cells #[.int .i64 x] 3)).heap.size 37 37 3 i0 (.int .i64 0) 1 8 Try.underlying37 hi hz0 hz1 hz2 rfl (by decide) (.slice none 0 0) 0 [] (World.ownsRow_nil _ _ 3 1) ⟨W.heap.size, 0, none⟩ 1 1 [.int .i64 x] rfl hnews (by simp [Value.oneCell']) (by decide) (by decide) (Nat.le_refl _)
  have := fin v' w' (W.alloc (.cells #[.int .i64 x] 3)).heap.size (by simp; omega) (by simpa using r1) (by simpa [Value.ownBlock] using r2)
  exact ⟨v', w', hrun, this⟩
 | some ad =>
  obtain ⟨v', w', hrun, r1, r2⟩ := run_append_arg_grows (P := Try.prog) (W.alloc (.cells #[.int .i64 x] 3)) 37 37 3 i0 (.int .i64 0) 1 8 Try.underlying37 hi hz0 hz1 hz2 rfl (by decide) ad mix.length mix.length (mix.map (Value.int .i64)) (by simp) (fun j u hj => by
   obtain ⟨ad', e, hc⟩ := qi8 (w := W) (W := W.alloc (.cells #[.int .i64 x] 3)) hC hb1 (by have := (List.getElem?_eq_some_iff.1 hj).1; omega)
   cases e
   exact hc j u hj) ⟨W.heap.size, 0, none⟩ 1 1 [.int .i64 x] rfl hnews (by omega) (by simp only [maxLen]; omega) (by omega)
  exact ⟨v', w', hrun, fin v' w' (W.alloc (.cells #[.int .i64 x] 3)).heap.size (by simp; omega) r1 r2⟩
theorem qog {α : Type} (f : Nat → List α) (k N : Nat) (h : k < N) : (List.range k).flatMap f ++ f k <+: (List.range N).flatMap f := by
 obtain ⟨d, rfl⟩ : ∃ d, N = (k + 1) + d := ⟨N - (k + 1), by omega⟩
 rw [List.range_add, List.flatMap_append, List.range_succ, List.flatMap_append, List.flatMap_singleton]
 exact List.prefix_append _ _
theorem qh5 {W W1 : World} {r : Option Nat} (h : W.drew.grownBy W1 r) : W.grownBy W1 r := ⟨h.1, h.2, h.3, h.size, fun k hk hr => h.block k hk hr⟩
theorem qob {n m : Nat} {P : Program} {l : Nat} {f : FuncId} {tmps : Array Value} {assign body : Code} {w : World} {R : Ending → World → Prop} (h : RoundIn Fence.wide n P l f tmps assign body w R) : RoundIn Fence.wide m P l f tmps assign body w R :=
 ⟨h.1, fun c cs _ => h.2 c cs (room_wide _)⟩
theorem qkW {n m : Nat} {P : Program} {l : Nat} {args : Array Value} {w : World} {R : Ending → World → Prop} (h : YieldAt Fence.wide n P l args w R) : YieldAt Fence.wide m P l args w R := by
 obtain ⟨fn, tmps, assign, body, hy, hR⟩ := h
 exact ⟨fn, tmps, assign, body, hy, qob hR⟩
structure qgc (l : Nat) (R : Int) (rb yb fb B : Nat) (W : World) : Prop where
 r : W.heap[rb]? = some (.cells #[.int .i64 R] 3 (0, 0))
 y : W.heap[yb]? = some (.cells #[.func (.yield l) #[] #[]] 147 (0, 0))
 f : W.heap[fb]? = some (.cells #[.func (.func 96) #[] #[.pointer (some ⟨rb, 0, none⟩), .pointer (some ⟨yb, 0, none⟩), .pointer (some ⟨fb, 0, none⟩)]] 87 (0, 0))
 br : B ≤ rb
 by_ : B ≤ yb
 bf : B ≤ fb
theorem qgc.keeps {l rb yb fb B : Nat} {R : Int} {W W1 : World} (h : qgc l R rb yb fb B W) (k : qcz B W W1) : qgc l R rb yb fb B W1 :=
 ⟨k.same _ _ _ h.br (by decide) h.r, k.same _ _ _ h.by_ (by decide) h.y, k.same _ _ _ h.bf (by decide) h.f, h.br, h.by_, h.bf⟩
theorem qkT {n m : Nat} {P : Program} {f : FuncId} {args : Array Value} {w : World} {R : Ending → World → Prop} (h : CallsIn Fence.wide n P f args w R) : CallsIn Fence.wide m P f args w R := callsIn_wide.2 (callsIn_wide.1 h)
set_option maxHeartbeats 4000000 in
set_option maxRecDepth 100000 in
theorem qsv (n l : Nat) (R : Nat) (rb yb fb B : Nat) (xs : List (List Int)) (J : List (List Int) → World → Prop)
  (hJ : ∀ pre W1 W2, J pre W1 → W1.grownBy W2 none → J pre W2)
  (hY : ∀ pre v x W1, J pre W1 → pre ++ [x] <+: xs → Kd.R (Kd.int .i64) 3 W1 B (fun _ => True) v x → YieldAt Fence.wide n Try.prog l #[v] W1 fun e W' => e = .returned (.bool true) ∧ J (pre ++ [x]) W' ∧ qcz B W1 W') :
  ∀ (m : Nat) (left : Int) (mix : List Int) (v : Value) (pre : List (List Int)) (W : World), 0 ≤ left → left ≤ 100 → mix.length + m + 1 = R → R ≤ 3 → B ≤ W.heap.size → Kd.R (Kd.int .i64) 3 W B (fun _ => True) v mix → qgc l R rb yb fb B W →
   J pre W → pre ++ qf5 m left mix <+: xs →
   CallsIn Fence.wide n Try.prog 96 #[v, .int .i64 left, .pointer (some ⟨rb, 0, none⟩), .pointer (some ⟨yb, 0, none⟩), .pointer (some ⟨fb, 0, none⟩)] W fun e W' => e = .returned (.bool true) ∧ J (pre ++ qf5 m left mix) W' ∧ qcz B W W' := by
 have hmix : Try.prog.follows .mixedOrders = true := by kernel_rfl
 intro m
 induction m with
 | zero =>
  intro left mix v pre W quL hleft hlen hR3 hBW hrow hbox hj hpre
  obtain ⟨A, c, rfl, hc, _⟩ := Kd.R_reads hrow
  have hbr : W.cell? ⟨rb, 0, none⟩ = some (.int .i64 R) := (qaf hbox.r 0).trans rfl
  have hby : W.cell? ⟨yb, 0, none⟩ = some (.func (.yield l) #[] #[]) := (qaf hbox.y 0).trans rfl
  have hlr : decide ((mix.length : Int) = (R : Int) - 1) = true := decide_eq_true (by omega)
  have hrow2 : Kd.R (Kd.int .i64) 3 W.drew B (fun _ => True) (.slice A mix.length c) mix := hrow
  obtain ⟨v1, w1, hrun', hr1, hg1⟩ := qkX hrow2 hBW (by omega) left
  have hrun : (Builtin.append_ #[37, 37] 37 #[.slice A mix.length mix.length, .slice (some ⟨W.heap.size, 0, none⟩) 1 1]).run Try.prog (W.alloc (.cells #[.int .i64 left] 3)).drew = .ok v1 w1 := hrun'
  clear hrun'
  have hg0 : W.grownBy w1 none := qh5 hg1
  have qlC : qgc l R rb yb fb B w1 := hbox.keeps (qcz.of_grown hg0)
  have hby1 : w1.cell? ⟨yb, 0, none⟩ = some (.func (.yield l) #[] #[]) := (qaf qlC.y 0).trans rfl
  have hylt : yb < W.heap.size := qaL hbox.y
  have hyne : (yb = W.heap.size) = False := eq_false (by omega)
  have qDA : (W.heap.size = yb) = False := eq_false (by omega)
  have hby2 : (W.alloc (.cells #[.int .i64 left] 3)).cell? ⟨yb, 0, none⟩ = some (.func (.yield l) #[] #[]) := (World.cell?_alloc_some _ _ _ (by rw [hby]; rfl)).trans hby
  have hcut := qhS (P := Try.prog) 37 3 Try.underlying37 rfl A mix.length c hc
  obtain ⟨fn, tmps, assign, body, hy, hRd⟩ := qkW (m := n - 1) (hY pre v1 (mix ++ [left]) w1 (hJ _ _ _ hj hg0) hpre hr1)
  refine callsIn_of_wp Try.func96 rfl trivial ?_ rfl
  simp only [Try.ntmps96, List.size_toArray, List.length_cons, List.length_nil, Nat.reduceAdd, Nat.reduceSub, Array.replicate_succ, Array.replicate_zero, List.push_toArray, List.append_toArray, List.nil_append, List.cons_append]
  gi_wp2
  gi_region_with_o (refine ⟨fun e => by simp [Fence.wide] at e, hRd.mono ?_⟩; rintro e W' ⟨rfl, hJ', hk'⟩)
  all_goals
   gi_wp2
   go_ret
   exact ⟨rfl, hJ', (qcz.of_grown hg0).trans hk'⟩
 | succ m ih =>
  intro left mix v pre W quL hleft hlen hR3 hBW hrow hbox hj hpre
  obtain ⟨A, c, rfl, hc, _⟩ := Kd.R_reads hrow
  have hbr : W.cell? ⟨rb, 0, none⟩ = some (.int .i64 R) := (qaf hbox.r 0).trans rfl
  have hlr : decide ((mix.length : Int) = (R : Int) - 1) = false := decide_eq_false (by omega)
  have hlr2 : ((mix.length : Int) == (R : Int) - 1) = false := by simpa using hlr
  have hcut := qhS (P := Try.prog) 37 3 Try.underlying37 rfl A mix.length c hc
  refine callsIn_of_wp Try.func96 rfl trivial ?_ rfl
  simp only [Try.ntmps96, List.size_toArray, List.length_cons, List.length_nil, Nat.reduceAdd, Nat.reduceSub, Array.replicate_succ, Array.replicate_zero, List.push_toArray, List.append_toArray, List.nil_append, List.cons_append]
  have hN : left.toNat + m + 1 ≤ left.toNat + m + 1 := Nat.le_refl _
  gi_wp2
  gi_loopg [27] (left.toNat + 1) (fun d v27 wr => ∃ (k : Nat), v27 = .int .i64 (k : Int) ∧ qaa (k + d = left.toNat + 1) ∧ qaa (J (pre ++ (List.range k).flatMap fun (n : Nat) => qf5 m (left - (n : Int)) (mix ++ [(n : Int)])) wr) ∧ qaa (qcz B W wr))
  case atStart => exact ⟨0, rfl, ⟨by omega⟩, ⟨by simpa using hj⟩, ⟨qcz.refl _ _⟩⟩
  case round =>
   obtain ⟨k, rfl, HD, HJ, HK⟩ := hrel
   by_cases hk : (k : Int) < left + 1
   ·
    obtain ⟨d, rfl⟩ : ∃ d, gk = d + 1 := ⟨gk - 1, by have := HD.out; omega⟩
    have hBr : B ≤ wr.heap.size := by have := HK.out.size; omega
    have hboxr : qgc l R rb yb fb B wr := hbox.keeps HK.out; have hrowr : Kd.R (Kd.int .i64) 3 wr.drew B (fun _ => True) (.slice A mix.length c) mix := (show Kd.R (Kd.int .i64) 3 wr B (fun _ => True) (.slice A mix.length c) mix from qki hrow HK.out)
    have hwr : IntKind.i64.wrap (left - (k : Int)) = left - (k : Int) := by rw [qaQ]; unfold wrap64; omega
    obtain ⟨v1, w1, hrun', hr1, hg1⟩ := qkX hrowr hBr (by omega) (k : Int); have hrun : (Builtin.append_ #[37, 37] 37 #[.slice A mix.length mix.length, .slice (some ⟨wr.heap.size, 0, none⟩) 1 1]).run Try.prog (wr.alloc (.cells #[.int .i64 (k : Int)] 3)).drew = .ok v1 w1 := hrun'; clear hrun'; have hg0 : wr.grownBy w1 none := qh5 hg1; have qlC : qgc l R rb yb fb B w1 := hboxr.keeps (qcz.of_grown hg0); have hbf : wr.cell? ⟨fb, 0, none⟩ = some (.func (.func 96) #[] #[.pointer (some ⟨rb, 0, none⟩), .pointer (some ⟨yb, 0, none⟩), .pointer (some ⟨fb, 0, none⟩)]) := (qaf hboxr.f 0).trans rfl; have hbf1 : w1.cell? ⟨fb, 0, none⟩ = some (.func (.func 96) #[] #[.pointer (some ⟨rb, 0, none⟩), .pointer (some ⟨yb, 0, none⟩), .pointer (some ⟨fb, 0, none⟩)]) := (qaf qlC.f 0).trans rfl; have hbf2 : (wr.alloc (.cells #[.int .i64 (k : Int)] 3)).cell? ⟨fb, 0, none⟩ = some (.func (.func 96) #[] #[.pointer (some ⟨rb, 0, none⟩), .pointer (some ⟨yb, 0, none⟩), .pointer (some ⟨fb, 0, none⟩)]) := (World.cell?_alloc_some _ _ _ (by rw [hbf]; rfl)).trans hbf; have hJ1 := hJ _ _ _ HJ.out hg0; have hB1 : B ≤ w1.heap.size := Nat.le_trans hBr hg0.size
    have qpW : (pre ++ (List.range k).flatMap fun (n : Nat) => qf5 m (left - (n : Int)) (mix ++ [(n : Int)])) ++ qf5 m (left - (k : Int)) (mix ++ [(k : Int)]) <+: xs := by
     refine List.IsPrefix.trans ?_ hpre; rw [List.append_assoc]
     exact (List.prefix_append_right_inj pre).2 (qog (fun (n : Nat) => qf5 m (left - (n : Int)) (mix ++ [(n : Int)])) k (left.toNat + 1) (by omega))
    have hcall := qkT (m := n - 1) (ih (left - (k : Int)) (mix ++ [(k : Int)]) v1 _ w1 (by omega) (by omega) (by simp; omega) hR3 hB1 hr1 qlC hJ1 qpW); have HG := qaa.mk hg0; have HP := qaa.mk qpW; clear hJ1 qpW hg0 hg1 hr1 qlC hboxr hrowr hB1 hBr
    gi_wp2
    gi_region_with_o (refine ⟨trivial, fun e => by simp [Fence.wide] at e, hcall.mono ?_⟩; rintro e W' ⟨rfl, hJ', hk'⟩)
    all_goals
     gi_wp2
     gi_roundg d
     case measure => omega
     case rel => exact ⟨k + 1, rfl, ⟨by have := HD.out; omega⟩, ⟨by rw [List.range_succ, List.flatMap_append, List.flatMap_singleton, ← List.append_assoc]; exact hJ'⟩, ⟨(HK.out.trans (qcz.of_grown HG.out)).trans hk'⟩⟩
   ·
    gi_wp2
    go_ret
    have hkk : k = left.toNat + 1 := by have := HD.out; omega
    subst hkk
    exact ⟨rfl, HJ.out, HK.out⟩
end Go.Proofs.Ytmhomdohhihlcaa.P
namespace Go.Proofs.Ytmhomdohhihlcaa.P
open Go.RowKit Go.Proofs.YtmhomdohhihlcaaW.PrintWords Go.Proofs.YtmhomdohhihlcaaW.PrintLast Go.Proofs.YtmhomdohhihlcaaW.PrintMore
structure qqC (p : Prop) : Prop where
 out : p
theorem qux (op : BinOp) (k : IntKind) (x y : Int) : (Lit.int k (Go.bits op k x y)).wf = true := by
 exact wf_bits op k x y
structure BSt where
 ch : List Int
 sp : Int
 lo : Int
def qaJ.upd (cells : List S136) (so : List Int) (x : Int) (st : BSt) : BSt :=
 if st.sp < (qa9.s cells x).1 ∨ ((qa9.s cells x).1 = st.sp ∧ (qa9.s cells x).2 < st.lo) then ⟨so, (qa9.s cells x).1, (qa9.s cells x).2⟩ else st
def qaJ.lp (cells : List S136) (sets : List Int) (many : Int) : Nat → List Int → Int → BSt → BSt
  | 0, _, _, st => st
  | d + 1, so, x, st => qaJ.lp cells sets many d so x
      (if (((so.length + 1 : Nat) : Int)) = many then qaJ.upd cells (so ++ [((sets.length - (d + 1) : Nat) : Int)]) (Go.bits .or .i64 x (rd sets ((sets.length - (d + 1) : Nat) : Int))) st
       else qaJ.lp cells sets many d (so ++ [((sets.length - (d + 1) : Nat) : Int)]) (Go.bits .or .i64 x (rd sets ((sets.length - (d + 1) : Nat) : Int))) st)
def qaJ.cz (cells : List S136) (sets : List Int) (many : Int) (d : Nat) (so : List Int) (x : Int) (st : BSt) : BSt :=
 if (so.length : Int) = many then qaJ.upd cells so x st else qaJ.lp cells sets many d so x st
def BxS (sb lb cb bm : Nat) (k : Nat) : Prop := k = sb ∨ k = lb ∨ k = cb ∨ k = bm
structure BxI (N0 seb sb lb cb tb fb bm : Nat) (A : Option Addr) (c : Nat) (cells : List S136) (At : Option Addr) (ct : Nat) (sets : List Int) (W : World) (st : BSt) : Prop where
 sea : W.heap[seb]? = some (.cells #[.slice A cells.length c, .map (some bm)] 142 (0, 0))
 spb : W.heap[sb]? = some (.cells #[.int .i64 st.sp] 3 (0, 0))
 lob : W.heap[lb]? = some (.cells #[.int .i64 st.lo] 3 (0, 0))
 chb : ∃ v, W.heap[cb]? = some (.cells #[v] 37 (0, 0)) ∧ Kd.R (Kd.int .i64) 3 W N0 (fun k => ¬ BxS sb lb cb bm k) v st.ch
 tbx : W.heap[tb]? = some (.cells #[.slice At sets.length ct] 137 (0, 0))
 fbx : W.heap[fb]? = some (.cells #[.func (.func 90) #[] #[.pointer (some ⟨seb, 0, none⟩), .pointer (some ⟨sb, 0, none⟩), .pointer (some ⟨lb, 0, none⟩), .pointer (some ⟨cb, 0, none⟩), .pointer (some ⟨tb, 0, none⟩), .pointer (some ⟨fb, 0, none⟩)]] 143 (0, 0))
 row : Kd.R (Kd.int .i64) 139 W N0 (fun k => ¬ BxS sb lb cb bm k) (.slice At sets.length ct) sets
 map : MapI W bm cells
 cel : Kd.C k136 W A cells.length cells
 hc : cells.length ≤ c
 n1 : seb ≠ sb ∧ seb ≠ lb ∧ seb ≠ cb ∧ seb ≠ bm
 n2 : tb ≠ sb ∧ tb ≠ lb ∧ tb ≠ cb ∧ tb ≠ bm
 n3 : fb ≠ sb ∧ fb ≠ lb ∧ fb ≠ cb ∧ fb ≠ bm
 n4 : sb ≠ lb ∧ sb ≠ cb ∧ sb ≠ bm ∧ lb ≠ cb ∧ lb ≠ bm ∧ cb ≠ bm
 n5 : N0 ≤ sb ∧ N0 ≤ lb ∧ N0 ≤ cb ∧ N0 ≤ bm
 cl : ∀ W', Below N0 W W' → Kd.C k136 W' A cells.length cells
section
variable {N0 seb sb lb cb tb fb bm : Nat} {A : Option Addr} {c : Nat} {cells : List S136} {At : Option Addr} {ct : Nat} {sets : List Int} {W W1 : World} {st : BSt}
theorem BxI.step (h : BxI N0 seb sb lb cb tb fb bm A c cells At ct sets W st) (hk : Kept W W1 (fun k => k = bm)) (hm : MapI W1 bm cells) (hb : Below N0 W W1) : BxI N0 seb sb lb cb tb fb bm A c cells At ct sets W1 st := by
 obtain ⟨v, h1, h2⟩ := h.chb
 exact ⟨qfy h.sea hk h.n1.2.2.2, qfy h.spb hk h.n4.2.2.1, qfy h.lob hk h.n4.2.2.2.2.1, ⟨v, qfy h1 hk h.n4.2.2.2.2.2, Kd.R_kept h2 hk (fun k hk1 e => hk1 (.inr (.inr (.inr e))))⟩, qfy h.tbx hk h.n2.2.2.2, qfy h.fbx hk h.n3.2.2.2,
  Kd.R_kept h.row hk (fun k hk1 e => hk1 (.inr (.inr (.inr e)))), hm, h.cl _ hb, h.hc, h.n1, h.n2, h.n3, h.n4, h.n5, fun W' hb' => h.cl _ (hb.trans hb')⟩
theorem BxI.below (h : BxI N0 seb sb lb cb tb fb bm A c cells At ct sets W st) (hb : Below W.heap.size W W1) (hN : N0 ≤ W.heap.size) : BxI N0 seb sb lb cb tb fb bm A c cells At ct sets W1 st :=
 h.step (Kept.of_below hb _) (h.map.keep (hb.block bm h.map.lt)) (hb.mono hN)
theorem BxI.put (h : BxI N0 seb sb lb cb tb fb bm A c cells At ct sets W st) {v : Value} {so : List Int} {s1 s2 : Int} (hv : Kd.R (Kd.int .i64) 3 W N0 (fun k => ¬ BxS sb lb cb bm k) v so) :
  BxI N0 seb sb lb cb tb fb bm A c cells At ct sets (((W.setCell ⟨cb, 0, none⟩ v).setCell ⟨sb, 0, none⟩ (.int .i64 s1)).setCell ⟨lb, 0, none⟩ (.int .i64 s2)) ⟨so, s1, s2⟩ ∧
   Kept W (((W.setCell ⟨cb, 0, none⟩ v).setCell ⟨sb, 0, none⟩ (.int .i64 s1)).setCell ⟨lb, 0, none⟩ (.int .i64 s2)) (BxS sb lb cb bm) ∧
   Below N0 W (((W.setCell ⟨cb, 0, none⟩ v).setCell ⟨sb, 0, none⟩ (.int .i64 s1)).setCell ⟨lb, 0, none⟩ (.int .i64 s2)) := by
 obtain ⟨v0, h1, h2⟩ := h.chb
 obtain ⟨a1, a2, a3, a4, a5, a6⟩ := h.n4
 have hK : Kept W (((W.setCell ⟨cb, 0, none⟩ v).setCell ⟨sb, 0, none⟩ (.int .i64 s1)).setCell ⟨lb, 0, none⟩ (.int .i64 s2)) (BxS sb lb cb bm) :=
  (((Kept.refl W _).setCell (p := ⟨cb, 0, none⟩) (.inl (.inr (.inr (.inl rfl)))) _).setCell (p := ⟨sb, 0, none⟩) (.inl (.inl rfl)) _).setCell (p := ⟨lb, 0, none⟩) (.inl (.inr (.inl rfl))) _
 have hB : Below N0 W (((W.setCell ⟨cb, 0, none⟩ v).setCell ⟨sb, 0, none⟩ (.int .i64 s1)).setCell ⟨lb, 0, none⟩ (.int .i64 s2)) :=
  (((Below.refl N0 W).setCell (p := ⟨cb, 0, none⟩) h.n5.2.2.1 _).setCell (p := ⟨sb, 0, none⟩) h.n5.1 _).setCell (p := ⟨lb, 0, none⟩) h.n5.2.1 _
 have nS : ∀ {k : Nat}, k ≠ sb → k ≠ lb → k ≠ cb → k ≠ bm → ¬ BxS sb lb cb bm k := fun h1 h2 h3 h4 e => by
  rcases e with e | e | e | e
  ·
   exact h1 e
  ·
   exact h2 e
  ·
   exact h3 e
  ·
   exact h4 e
 refine ⟨⟨qfy h.sea hK (nS h.n1.1 h.n1.2.1 h.n1.2.2.1 h.n1.2.2.2), ?_, ?_, ⟨v, ?_, Kd.R_kept hv hK (fun k hk => hk)⟩, qfy h.tbx hK (nS h.n2.1 h.n2.2.1 h.n2.2.2.1 h.n2.2.2.2), qfy h.fbx hK (nS h.n3.1 h.n3.2.1 h.n3.2.2.1 h.n3.2.2.2), Kd.R_kept h.row hK (fun k hk => hk),
  h.map.keep ?_, h.cl _ hB, h.hc, h.n1, h.n2, h.n3, h.n4, h.n5, fun W' hb' => h.cl _ (hB.trans hb')⟩, hK, hB⟩
 ·
  exact qao (qaE (qao h.spb (p := ⟨cb, 0, none⟩) a2 _) 0 _ rfl) (p := ⟨lb, 0, none⟩) a1 _
 ·
  exact qaE (qao (qao h.lob (p := ⟨cb, 0, none⟩) a4 _) (p := ⟨sb, 0, none⟩) (Ne.symm a1) _) 0 _ rfl
 ·
  exact qao (qao (qaE h1 0 _ rfl) (p := ⟨sb, 0, none⟩) (Ne.symm a2) _) (p := ⟨lb, 0, none⟩) (Ne.symm a4) _
 ·
  exact ((Below.heap_setCell _ _ _ bm (Ne.symm a5)).trans (Below.heap_setCell _ _ _ bm (Ne.symm a3))).trans (Below.heap_setCell _ _ _ bm (Ne.symm a6))
set_option maxHeartbeats 4000000 in
set_option maxRecDepth 100000 in
theorem qgd.leaf (v : Value) (so : List Int) (x : Int) (hI : BxI N0 seb sb lb cb tb fb bm A c cells At ct sets W st) (hN : N0 ≤ W.heap.size) (hv : Kd.R (Kd.int .i64) 3 W N0 (fun k => ¬ BxS sb lb cb bm k) v so) (hx : (Lit.int .i64 x).wf = true) :
  Calls Try.prog 90 #[v, .agg #[.int .i64 x], .int .i64 (so.length : Int), .pointer (some ⟨seb, 0, none⟩), .pointer (some ⟨sb, 0, none⟩), .pointer (some ⟨lb, 0, none⟩), .pointer (some ⟨cb, 0, none⟩), .pointer (some ⟨tb, 0, none⟩), .pointer (some ⟨fb, 0, none⟩)] W
   fun e w' => (∃ u, e = .returned u) ∧ BxI N0 seb sb lb cb tb fb bm A c cells At ct sets w' (qaJ.upd cells so x st) ∧ Kept W w' (BxS sb lb cb bm) ∧ Below N0 W w' := by
 obtain ⟨Av, cv, rfl, hcv, hCv⟩ := Kd.R_reads hv
 have qru := Try.underlying142
 have qrv := Try.underlying139
 have qpU := Try.underlying136
 have hbl := qac (Below.refl W.heap.size W) (.cells #[.int .i64 x] 139)
 have hIa := hI.below hbl hN
 have hs0 : (W.alloc (.cells #[.int .i64 x] 139)).cell? ⟨seb, 0, none⟩ = some (.slice A cells.length c) := (qaf hIa.sea 0).trans rfl
 have hs1 : (W.alloc (.cells #[.int .i64 x] 139)).cell? ⟨seb, 1, none⟩ = some (.map (some bm)) := (qaf hIa.sea 1).trans rfl
 have hmx : so.length ≤ 9223372036854775807 := hCv.2.1
 have HI := qaa.mk hI
 have HIa := qaa.mk hIa
 have HV := qaa.mk hv
 have HBL := qaa.mk hbl
 obtain ⟨s1, hs1e⟩ : ∃ s1, (qa9.s cells x).1 = s1 := ⟨_, rfl⟩
 obtain ⟨s2, hs2e⟩ : ∃ s2, (qa9.s cells x).2 = s2 := ⟨_, rfl⟩
 obtain ⟨st2, hst2⟩ : ∃ st2, qaJ.upd cells so x st = st2 := ⟨_, rfl⟩
 rw [hst2]
 have hupd : (if st.sp < s1 ∨ (s1 = st.sp ∧ s2 < st.lo) then ⟨so, s1, s2⟩ else st) = st2 := by rw [← hst2, ← hs1e, ← hs2e]; rfl
 have HS1 := qaa.mk hs1e
 have HS2 := qaa.mk hs2e
 have HU := qaa.mk hupd
 clear hI hIa hv hbl hCv hs1e hs2e hupd hst2
 go_enter Try.func90, Try.ntmps90
 go_wp2_with (go_at_call 91; refine qqC.out ?_)
 refine qqC.mk ?_
 refine (qkZ.calls A cells.length c bm cells x _ HIa.out.cel HIa.out.hc hx HIa.out.map).mono ?_
 rintro e w2 ⟨rfl, hm2, hk2, hb2⟩
 have hb2' := hb2.mono HIa.out.n5.2.2.2
 have hI2 := HIa.out.step hk2 hm2 hb2'
 rw [HS1.out, HS2.out]
 clear hs0 hs1
 have hb3 := qac (Below.refl w2.heap.size w2) (.cells #[.int .i64 s1, .int .i64 s2] 136)
 have hN2 : N0 ≤ w2.heap.size := by have := HIa.out.n5.2.2.2; have := hm2.lt; omega
 have hI3 := hI2.below hb3 hN2
 have hK3 : Kept W (w2.alloc (.cells #[.int .i64 s1, .int .i64 s2] 136)) (BxS sb lb cb bm) := ((Kept.of_below HBL.out _).then_ (hk2.mono (fun k hk => .inr (.inr (.inr hk)))) (fun k hk => .inl hk)).alloc _
 have hB3 : Below N0 W (w2.alloc (.cells #[.int .i64 s1, .int .i64 s2] 136)) := ((HBL.out.mono hN).trans hb2').trans (hb3.mono hN2)
 have hlt2 : W.heap.size ≤ w2.heap.size := by have := hk2.1; simp at this; omega
 have hcs2 : w2.cell? ⟨sb, 0, none⟩ = some (.int .i64 st.sp) := (qaf hI2.spb 0).trans rfl
 have hcl2 : w2.cell? ⟨lb, 0, none⟩ = some (.int .i64 st.lo) := (qaf hI2.lob 0).trans rfl
 have hfs2 := qaj hI2.spb 0
 have hfl2 := qaj hI2.lob 0
 have hcc2 : ∃ vc, w2.cell? ⟨cb, 0, none⟩ = some vc := by obtain ⟨v, h, _⟩ := hI2.chb; exact ⟨v, (qaf h 0).trans rfl⟩
 have hfc2 : w2.frozen? ⟨cb, 0, none⟩ = false := by obtain ⟨v, h, _⟩ := hI2.chb; exact qaj h 0
 obtain ⟨vc2, hcc2⟩ := hcc2
 obtain ⟨W3, hW3⟩ : ∃ W3, w2.alloc (.cells #[.int .i64 s1, .int .i64 s2] 136) = W3 := ⟨_, rfl⟩
 have hn3 : W3.heap[w2.heap.size]? = some (.cells #[.int .i64 s1, .int .i64 s2] 136 (0, 0)) := by rw [← hW3]; exact World.alloc_heap_new w2 _
 have hV3 : Kd.R (Kd.int .i64) 3 W3 N0 (fun k => ¬ BxS sb lb cb bm k) (.slice Av so.length cv) so := by rw [← hW3]; exact Kd.R_kept HV.out hK3 (fun k hk => hk)
 rw [hW3] at hI3 hK3 hB3 hb3
 have hc0 : W3.cell? ⟨w2.heap.size, 0, none⟩ = some (.int .i64 s1) := (qaf hn3 0).trans rfl
 have hc1 : W3.cell? ⟨w2.heap.size, 1, none⟩ = some (.int .i64 s2) := (qaf hn3 1).trans rfl
 have hcs : W3.cell? ⟨sb, 0, none⟩ = some (.int .i64 st.sp) := (qaf hI3.spb 0).trans rfl
 have hcl : W3.cell? ⟨lb, 0, none⟩ = some (.int .i64 st.lo) := (qaf hI3.lob 0).trans rfl
 obtain ⟨vc, hcb, hcr⟩ := hI3.chb
 have hcc : W3.cell? ⟨cb, 0, none⟩ = some vc := (qaf hcb 0).trans rfl
 have hfs := qaj hI3.spb 0
 have hfl := qaj hI3.lob 0
 have hfc := qaj hcb 0
 obtain ⟨q1, q2, q3, q4, q5, q6⟩ := hI3.n4
 have hsl : sb < w2.heap.size := qaL hI2.spb
 have hll : lb < w2.heap.size := qaL hI2.lob
 have hclt : cb < w2.heap.size := by obtain ⟨_, h, _⟩ := hI2.chb; exact qaL h
 have HI3 := qaa.mk hI3
 have HK3 := qaa.mk hK3
 have HB3 := qaa.mk hB3
 have HV3 := qaa.mk hV3
 have HCB := qaa.mk hcb
 have hsz3 : qaa (w2.heap.size < W3.heap.size) := ⟨qaL hn3⟩
 have hupd := HU.out
 have HI2 := qaa.mk hI2
 have HK2 : qaa (Kept W w2 (BxS sb lb cb bm)) := ⟨(Kept.of_below HBL.out _).then_ (hk2.mono (fun k hk => .inr (.inr (.inr hk)))) (fun k hk => .inl hk)⟩
 have HV2 := qaa.mk (Kd.R_kept HV.out HK2.out (fun k hk => hk))
 have HB2 := qaa.mk ((HBL.out.mono hN).trans hb2')
 have HN2 := qaa.mk hN2
 clear hI3 hK3 hB3 hV3 hcb hI2 hb3 hN2 hm2 hk2 hb2 hb2' hlt2 hn3 HI HIa HV HBL hcr HS1 HS2 HU
 subst hW3
 by_cases hu : st.sp < s1 ∨ (s1 = st.sp ∧ s2 < st.lo)
 ·
  rw [if_pos hu] at hupd
  subst hupd
  have hg : (decide (st.sp < s1) = true) ∨ (decide (st.sp < s1) = false ∧ (s1 == st.sp) = true ∧ decide (s2 < st.lo) = true) := by
   by_cases h1 : st.sp < s1
   ·
    exact .inl (decide_eq_true h1)
   ·
    rcases hu with h | ⟨h2, h3⟩
    ·
     exact absurd h h1
    ·
     exact .inr ⟨decide_eq_false h1, by simpa using h2, decide_eq_true h3⟩
  rcases hg with hg1 | ⟨hg1, hg2, hg3⟩
  ·
   go_wp2
   go_region
   go_wp2
   refine bodyPost_ret (results_none rfl _ _ _) rfl ?_
   obtain ⟨g1, g2, g3⟩ := HI2.out.put (s1 := s1) (s2 := s2) HV2.out
   have hsz : (((w2.setCell ⟨cb, 0, none⟩ (.slice Av so.length cv)).setCell ⟨sb, 0, none⟩ (.int .i64 s1)).setCell ⟨lb, 0, none⟩ (.int .i64 s2)).heap.size = w2.heap.size := by simp
   have hbb := qbx (qac (Below.refl (((w2.setCell ⟨cb, 0, none⟩ (.slice Av so.length cv)).setCell ⟨sb, 0, none⟩ (.int .i64 s1)).setCell ⟨lb, 0, none⟩ (.int .i64 s2)).heap.size (((w2.setCell ⟨cb, 0, none⟩ (.slice Av so.length cv)).setCell ⟨sb, 0, none⟩ (.int .i64 s1)).setCell ⟨lb, 0, none⟩ (.int .i64 s2))) (.cells #[.int .i64 s1, .int .i64 s2] 136))
   exact ⟨⟨_, rfl⟩, g1.below hbb (by rw [hsz]; exact HN2.out), (HK2.out.then_ g2 (fun k hk => .inl hk)).below hbb, (HB2.out.trans g3).trans (hbb.mono (by rw [hsz]; exact HN2.out))⟩
  ·
   go_wp2
   go_region
   go_wp2
   refine bodyPost_ret (results_none rfl _ _ _) rfl ?_
   obtain ⟨g1, g2, g3⟩ := HI2.out.put (s1 := s1) (s2 := s2) HV2.out
   have hsz : (((w2.setCell ⟨cb, 0, none⟩ (.slice Av so.length cv)).setCell ⟨sb, 0, none⟩ (.int .i64 s1)).setCell ⟨lb, 0, none⟩ (.int .i64 s2)).heap.size = w2.heap.size := by simp
   have hbb := qbx (qac (Below.refl (((w2.setCell ⟨cb, 0, none⟩ (.slice Av so.length cv)).setCell ⟨sb, 0, none⟩ (.int .i64 s1)).setCell ⟨lb, 0, none⟩ (.int .i64 s2)).heap.size (((w2.setCell ⟨cb, 0, none⟩ (.slice Av so.length cv)).setCell ⟨sb, 0, none⟩ (.int .i64 s1)).setCell ⟨lb, 0, none⟩ (.int .i64 s2))) (.cells #[.int .i64 s1, .int .i64 s2] 136))
   exact ⟨⟨_, rfl⟩, g1.below hbb (by rw [hsz]; exact HN2.out), (HK2.out.then_ g2 (fun k hk => .inl hk)).below hbb, (HB2.out.trans g3).trans (hbb.mono (by rw [hsz]; exact HN2.out))⟩
 ·
  rw [if_neg hu] at hupd
  subst hupd
  have hg1 : decide (st.sp < s1) = false := decide_eq_false (fun h => hu (.inl h))
  by_cases he : s1 = st.sp
  ·
   have hg2 : (s1 == st.sp) = true := by simpa using he
   have hg3 : decide (s2 < st.lo) = false := decide_eq_false (fun h => hu (.inr ⟨he, h⟩))
   clear he hu
   go_wp2
   refine bodyPost_ret (results_none rfl _ _ _) rfl ?_
   exact ⟨⟨_, rfl⟩, HI3.out, HK3.out, HB3.out⟩
  ·
   have hg2 : (s1 == st.sp) = false := by simpa using he
   clear he hu
   go_wp2
   refine bodyPost_ret (results_none rfl _ _ _) rfl ?_
   exact ⟨⟨_, rfl⟩, HI3.out, HK3.out, HB3.out⟩
end
theorem qsa (cells : List S136) (sets : List Int) (many : Int) (d i : Nat) (so : List Int) (x : Int) (st : BSt) (h : i + (d + 1) = sets.length) :
  qaJ.lp cells sets many (d + 1) so x st = qaJ.lp cells sets many d so x (qaJ.cz cells sets many d (so ++ [(i : Int)]) (Go.bits .or .i64 x (rd sets (i : Int))) st) := by
 have e : sets.length - (d + 1) = i := by omega
 rw [qaJ.lp, e, qaJ.cz]
 simp
theorem qnU {W : World} {B c : Nat} {A : Option Addr} {mix : List Int} {ok : Nat → Prop} (h : Kd.R (Kd.int .i64) 3 W B ok (.slice A mix.length c) mix) (hl : mix.length ≤ 10) (x : Int) :
  ∃ v' w', (Builtin.append_ #[37, 37] 37 #[.slice A mix.length mix.length, .slice (some ⟨W.heap.size, 0, none⟩) 1 1]).run Try.prog (W.alloc (.cells #[.int .i64 x] 3)) = .ok v' w' ∧
   Kd.R (Kd.int .i64) 3 w' W.heap.size (fun _ => True) v' (mix ++ [x]) ∧ W.grownBy w' none := by
 have hC := (Kd.R_reads' h).2.2
 have hinf : (Try.prog.info? 3).map (fun i => (i.zero, i.size, i.bytes)) = some (some (.int .i64 0), 1, 8) := by kernel_rfl
 obtain ⟨i0, hi, hz0, hz1, hz2⟩ := info_parts hinf
 have hb1 : Below W.heap.size W (W.alloc (.cells #[.int .i64 x] 3)) := (Below.refl _ W).alloc (Nat.le_refl _) _
 have hnews : ∀ j u, [Value.int .i64 x][j]? = some u → (W.alloc (.cells #[.int .i64 x] 3)).cell? (Addr.add ⟨W.heap.size, 0, none⟩ j) = some u := by
  intro j u hj
  have hj0 : j = 0 := by
   have := (List.getElem?_eq_some_iff.1 hj).1
   simpa using this
  subst hj0
  rw [show Addr.add ⟨W.heap.size, 0, none⟩ 0 = (⟨W.heap.size, 0, none⟩ : Addr) by simp [Addr.add]]
  rw [← hj]
  exact (qaf (World.alloc_heap_new W _) 0).trans rfl
 have fin : ∀ (v' : Value) (w' : World), w'.ownsRow (W.alloc (.cells #[.int .i64 x] 3)).heap.size 3 1 v' (mix.length + 1) (mix.map (Value.int .i64) ++ [.int .i64 x]) → (W.alloc (.cells #[.int .i64 x] 3)).grownBy w' none → Kd.R (Kd.int .i64) 3 w' W.heap.size (fun _ => True) v' (mix ++ [x]) ∧ W.grownBy w' none := by
  intro v' w' ho hg
  refine ⟨Kd.R_of_own (qjP (base := (W.alloc (.cells #[.int .i64 x] 3)).heap.size) ?_ (by simp)) (fun _ _ => trivial), (World.grownBy_alloc W _ none).trans hg⟩
  have e1 : (mix ++ [x]).length = mix.length + 1 := by simp
  have e2 : encs (Value.int .i64) (mix ++ [x]) = mix.map (Value.int .i64) ++ [.int .i64 x] := by simp [encs]
  rw [e1, e2]
  exact ho
 cases A with
 | none =>
  have hm : mix = [] := by
   by_cases hz : 0 < mix.length
   ·
    obtain ⟨ad, e, _⟩ := qi8 (W := W) hC (Below.refl _ _) (by simpa using hz); cases e
   ·
    exact List.eq_nil_of_length_eq_zero (by omega)
  subst hm
  obtain ⟨v', w', hrun, r1, r2, _⟩ := run_append_own (P := Try.prog) (W.alloc (.cells #[.int .i64 x] 3)) (W.alloc (.cells #[.int .i64 x] 3)).heap.size 37 37 3 i0 (.int .i64 0) 1 8 Try.underlying37 hi hz0 hz1 hz2 rfl (by decide) (.slice none 0 0) 0 [] (World.ownsRow_nil _ _ 3 1) ⟨W.heap.size, 0, none⟩ 1 1 [.int .i64 x] rfl hnews (by simp [Value.oneCell']) (by decide) (by decide) (Nat.le_refl _)
  exact ⟨v', w', hrun, fin v' w' (by simpa using r1) (by simpa [Value.ownBlock] using r2)⟩
 | some ad =>
  obtain ⟨v', w', hrun, r1, r2⟩ := run_append_arg_grows (P := Try.prog) (W.alloc (.cells #[.int .i64 x] 3)) 37 37 3 i0 (.int .i64 0) 1 8 Try.underlying37 hi hz0 hz1 hz2 rfl (by decide) ad mix.length mix.length (mix.map (Value.int .i64)) (by simp) (fun j u hj => by
   obtain ⟨ad', e, hc⟩ := qi8 (w := W) (W := W.alloc (.cells #[.int .i64 x] 3)) hC hb1 (by have := (List.getElem?_eq_some_iff.1 hj).1; omega)
   cases e
   exact hc j u hj) ⟨W.heap.size, 0, none⟩ 1 1 [.int .i64 x] rfl hnews (by omega) (by simp only [maxLen]; omega) (by omega)
  exact ⟨v', w', hrun, fin v' w' r1 r2⟩
theorem qk6 {P : Program} {ops : Array Oper} {Q : Exit → Act → World → Prop} {o : Oper} {a : Act} {W W1 : World} {K : Act → World → Prop} (hw : Region.wanted o (yielded ops a.tmps) = true) (s x : Operand) (t t1 : TypeId)
  (ho : o.op = .call { callee := .builtin .append, args := #[s, x], argTypes := #[t, t] }) (hty : o.type = t1) {vs vx v : Value} (hs : a.eval s = vs) (hx : a.eval x = vx) (hrun : (Builtin.append_ #[t, t] t1 #[vs, vx]).run P W = .ok v W1) (h : K (a.put o.dst v) W1) :
  if Region.wanted o (yielded ops a.tmps) = true then Oper.wp P o a W K Q else K (a.put o.dst undef) W := by
 rw [if_pos hw]
 subst hty
 unfold Oper.wp execOp
 simp only [ho, resolve, invoke, builtin, Sem.run_bind, Sem.run_pure, Result.andThen_ok, List.map_toArray, List.map_cons, List.map_nil, hs, hx, hrun]
 exact h
theorem quw {P : Program} {ops : Array Oper} {Q : Exit → Act → World → Prop} {oi : Oper} {N : Option Tmp} {a : Act} {w : World} {K : Act → World → Prop} {f : FuncId} {fn : Func} {ao : Array Operand} {ts : Array TypeId} (hf : P.funcs[f]? = some fn) (hname : (fn.name == "runtime.NumGoroutine") = false) (hb : fn.body.isSome = true) (args : Array Value) (t : Tmp) (bound caps : Array Value)
  (hw : Region.wanted oi (yielded ops a.tmps) = true) (hN : oi.dst = N) (hop : oi.op = .call { callee := .value (.tmp t), args := ao, argTypes := ts }) (hev : a.eval (.tmp t) = .func (.func f) bound caps) (hargs : bound ++ ao.map a.eval ++ caps = args)
  (h : Calls P f args w fun e w' => ∃ v, e = .returned v ∧ K (a.put N v) w') : if Region.wanted oi (yielded ops a.tmps) = true then Oper.wp P oi a w K Q else K (a.put N undef) w := by
 refine qpx f args hw hN ?_ h
 have he := qiY hf hname hb args w
 unfold execOp
 simp [hop, resolve, Deferred.ofValue, invoke, hev, hargs, he]
section
variable {N0 seb sb lb cb tb fb bm : Nat} {A : Option Addr} {c : Nat} {cells : List S136} {At : Option Addr} {ct : Nat} {sets : List Int}
attribute [-go_sem] Builtin.append_
set_option maxHeartbeats 4000000 in
set_option maxRecDepth 100000 in
theorem qgd.calls (many : Int) (hn : sets.length ≤ 8) : ∀ (d0 : Nat) (v : Value) (so : List Int) (x : Int) (st : BSt) (W : World), ((so = [] ∧ d0 = sets.length) ∨ ∃ (p : List Int) (l : Nat), so = p ++ [(l : Int)] ∧ l + 1 + d0 = sets.length) → so.length + d0 ≤ sets.length →
  BxI N0 seb sb lb cb tb fb bm A c cells At ct sets W st → N0 ≤ W.heap.size → Kd.R (Kd.int .i64) 3 W N0 (fun k => ¬ BxS sb lb cb bm k) v so → (Lit.int .i64 x).wf = true →
  Calls Try.prog 90 #[v, .agg #[.int .i64 x], .int .i64 many, .pointer (some ⟨seb, 0, none⟩), .pointer (some ⟨sb, 0, none⟩), .pointer (some ⟨lb, 0, none⟩), .pointer (some ⟨cb, 0, none⟩), .pointer (some ⟨tb, 0, none⟩), .pointer (some ⟨fb, 0, none⟩)] W
   fun e w' => (∃ u, e = .returned u) ∧ BxI N0 seb sb lb cb tb fb bm A c cells At ct sets w' (qaJ.cz cells sets many d0 so x st) ∧ Kept W w' (BxS sb lb cb bm) ∧ Below N0 W w' := by
 intro d0
 induction d0 using Nat.strongRecOn with
 | ind d0 ih =>
 intro v so x st W hfrom hlen hI hN hv hx
 by_cases hm : (so.length : Int) = many
 ·
  subst hm
  rw [qaJ.cz, if_pos rfl]
  exact qgd.leaf v so x hI hN hv hx
 ·
  obtain ⟨fin, hfin⟩ : ∃ fin, qaJ.cz cells sets many d0 so x st = fin := ⟨_, rfl⟩
  rw [hfin]
  rw [qaJ.cz, if_neg hm] at hfin
  have hm2 : ((so.length : Int) == many) = false := by simpa using hm
  obtain ⟨Av, cv, rfl, hcv, hCv⟩ := Kd.R_reads hv
  have qrv := Try.underlying139
  have hbl := qac (Below.refl W.heap.size W) (.cells #[.int .i64 x] 139)
  have hIa := hI.below hbl hN
  have hmx : so.length ≤ 9223372036854775807 := hCv.2.1
  obtain ⟨W1, hW1⟩ : ∃ W1, W.alloc (.cells #[.int .i64 x] 139) = W1 := ⟨_, rfl⟩
  have hx1 : W1.heap[W.heap.size]? = some (.cells #[.int .i64 x] 139 (0, 0)) := by rw [← hW1]; exact World.alloc_heap_new W _
  have hC1 : Kd.C (Kd.int .i64) W1 Av so.length so := by rw [← hW1]; exact Kd.C_below hCv hbl
  have hV1 : Kd.R (Kd.int .i64) 3 W1 N0 (fun k => ¬ BxS sb lb cb bm k) (.slice Av so.length cv) so := by rw [← hW1]; exact Kd.R_below hv hbl
  rw [hW1] at hbl hIa
  have hlt : W.heap.size < W1.heap.size := qaL hx1
  have hbs : ∀ k, BxS sb lb cb bm k → k < W.heap.size := fun k hk => by
   rcases hk with rfl | rfl | rfl | rfl
   ·
    exact qaL hI.spb
   ·
    exact qaL hI.lob
   ·
    obtain ⟨_, h, _⟩ := hI.chb; exact qaL h
   ·
    exact hI.map.lt
  obtain ⟨fr, hfr⟩ : ∃ fr : Nat, fr + d0 = sets.length := ⟨sets.length - d0, by omega⟩
  have hlast : so ≠ [] → 0 < so.length ∧ rd so ((so.length : Int) - 1) = (fr : Int) - 1 := fun h => by
   rcases hfrom with ⟨h1, _⟩ | ⟨p, l, rfl, hl⟩
   ·
    exact absurd h1 h
   ·
    refine ⟨by simp, ?_⟩
    simp [rd, List.getD_eq_getElem?_getD]
    omega
  have hfirst : so = [] → fr = 0 := fun h => by
   rcases hfrom with ⟨h1, h2⟩ | ⟨p, l, rfl, hl⟩
   ·
    omega
   ·
    simp at h
  have HF := qaa.mk hfin
  have HIA := qaa.mk hIa
  have HBL := qaa.mk hbl
  have HX1 := qaa.mk hx1
  have HV1 := qaa.mk hV1
  have HC1 := qaa.mk hC1
  have HFR := qaa.mk hfr
  have HBS := qaa.mk hbs
  clear hfin hIa hbl hx1 hV1 hC1 hfr hI hv hCv hfrom hbs hm
  go_enter Try.func90, Try.ntmps90
  go_upto_if 45 with (fail)
  go_cut [13] (fun v13 wc => v13 = .int .i64 (fr : Int) ∧ wc = W1)
  case first =>
   by_cases hso : so = []
   ·
    have h0 := hfirst hso; subst h0
    have hl1 : ¬ (0 < so.length) := by rw [hso]; decide
    have hl0 : decide (0 < so.length) = false := decide_eq_false hl1; clear hso hlast hfirst
    go_wp2
    go_meet
    case rel => exact ⟨rfl, rfl⟩
   ·
    obtain ⟨hp, hl⟩ := hlast hso; obtain ⟨ad, ea, hxl⟩ := Kd.at_int HC1.out ((so.length : Int) - 1) (by omega) (by omega); subst ea; rw [hl] at hxl; rw [show ((so.length : Int) - 1).toNat = so.length - 1 by omega] at hxl; have hl0 : decide (0 < so.length) = true := decide_eq_true hp
    have hfr8 : fr ≤ 8 := by have := HFR.out; omega
    have hw1 : ((fr : Int) - 1 + 1) = (fr : Int) := by omega
    clear hlast hfirst hl hso
    go_wp2
    go_meet
    case rel => exact ⟨by rw [← hw1], rfl⟩
  case rest =>
   obtain ⟨rfl, rfl⟩ := hcut
   clear hlast hfirst
   go_wp2
   go_loopg [14] d0 (fun d v14 wr => ∃ (i : Nat), v14 = .int .i64 (i : Int) ∧ qaa (i + d = sets.length ∧ d ≤ d0) ∧ qaa (∃ st', BxI N0 seb sb lb cb tb fb bm A c cells At ct sets wr st' ∧ qaJ.lp cells sets many d so x st' = fin) ∧ qaa (Kept wc wr (BxS sb lb cb bm)) ∧ qaa (Below N0 wc wr))
   case atStart => exact ⟨fr, rfl, ⟨HFR.out, Nat.le_refl _⟩, ⟨st, HIA.out, HF.out⟩, ⟨Kept.refl _ _⟩, ⟨Below.refl _ _⟩⟩
   case round =>
    obtain ⟨i, rfl, HD, HS, HK, HB⟩ := hrel; obtain ⟨st', hI', hlp⟩ := HS.out; have htb : wr.cell? ⟨tb, 0, none⟩ = some (.slice At sets.length ct) := (qaf hI'.tbx 0).trans rfl; have HI' := qaa.mk hI'; have HLP := qaa.mk hlp
    have hn9 : sets.length ≤ 9223372036854775807 := by omega
    clear hI' hlp HS
    by_cases hi : i < sets.length
    ·
     obtain ⟨d, rfl⟩ : ∃ d, gk = d + 1 := ⟨gk - 1, by have := HD.out; omega⟩; have hDD := HD.out; obtain ⟨tr, cr, er, _, _, _, _⟩ := Kd.R_form HI'.out.row (by omega)
     injection er with e1 _ e2
     subst e1 e2; obtain ⟨ad, ea, hel⟩ := Kd.at_int (Kd.R_reads' HI'.out.row).2.2 (i : Int) (by omega) (by omega)
     injection ea with ea
     subst ea; rw [Int.toNat_natCast] at hel
     have hel : wr.cell? ⟨tr, i, none⟩ = some (.int .i64 (rd sets (i : Int))) := by rwa [qey] at hel
     have hfb : wr.cell? ⟨fb, 0, none⟩ = some (.func (.func 90) #[] #[.pointer (some ⟨seb, 0, none⟩), .pointer (some ⟨sb, 0, none⟩), .pointer (some ⟨lb, 0, none⟩), .pointer (some ⟨cb, 0, none⟩), .pointer (some ⟨tb, 0, none⟩), .pointer (some ⟨fb, 0, none⟩)]) := (qaf HI'.out.fbx 0).trans rfl; have hxr : wr.heap[W.heap.size]? = some (.cells #[.int .i64 x] 139 (0, 0)) := qfy HX1.out HK.out (fun h => by have := HBS.out _ h; omega); have hx0 : wr.cell? ⟨W.heap.size, 0, none⟩ = some (.int .i64 x) := (qaf hxr 0).trans rfl; have hsz : wc.heap.size ≤ wr.heap.size := HK.out.1; have hVr : Kd.R (Kd.int .i64) 3 wr.drew N0 (fun k => ¬ BxS sb lb cb bm k) (.slice Av so.length cv) so := Kd.R_drew (Kd.R_kept HV1.out HK.out (fun k hk => hk)); obtain ⟨v1, w1, hrun', hr1, hg1⟩ := qnU hVr (by omega) (i : Int); have hg0 : wr.grownBy w1 none := qh5 hg1; have hb1 : Below wr.heap.size wr w1 := (Below.refl _ _).grown hg0 (Nat.le_refl _) (fun k e => by cases e); have qDB := qhS (P := Try.prog) 37 3 Try.underlying37 rfl Av so.length cv hcv; obtain ⟨or, hor⟩ : ∃ o, Go.bits .or .i64 x (rd sets (i : Int)) = o := ⟨_, rfl⟩; have hlp2 := HLP.out; rw [qsa cells sets many d i so x st' hDD.1, hor] at hlp2
     have hworz : (Lit.int .i64 or).wf = true := by rw [← hor]; exact qux _ _ _ _
     have hNr : N0 ≤ wr.heap.size := by omega
     have hN1 : N0 ≤ w1.heap.size := by have := hb1.size; omega
     have hr1' : Kd.R (Kd.int .i64) 3 w1 N0 (fun k => ¬ BxS sb lb cb bm k) v1 (so ++ [(i : Int)]) := Kd.R_mono (Kd.R_bound (Kd.R_lower (Kd.R_mono (Kd.R_bound hr1) (fun k hk => (⟨hk.2.1, trivial⟩ : wr.drew.heap.size ≤ k ∧ True))) (show N0 ≤ wr.drew.heap.size from hNr))) (fun k hk e => by have h1 := HBS.out k e; have h2 : wr.heap.size ≤ k := hk.1.1; omega); have hcall := ih d (by omega) v1 (so ++ [(i : Int)]) or st' w1 (.inr ⟨so, i, rfl, by omega⟩) (by simp; omega) (HI'.out.below hb1 hNr) hN1 hr1' hworz
     have hSb : ∀ z : World, Below wr.heap.size wr z → z.cell? ⟨fb, 0, none⟩ = some (.func (.func 90) #[] #[.pointer (some ⟨seb, 0, none⟩), .pointer (some ⟨sb, 0, none⟩), .pointer (some ⟨lb, 0, none⟩), .pointer (some ⟨cb, 0, none⟩), .pointer (some ⟨tb, 0, none⟩), .pointer (some ⟨fb, 0, none⟩)]) ∧ z.cell? ⟨W.heap.size, 0, none⟩ = some (.int .i64 x) ∧ z.cell? ⟨tb, 0, none⟩ = some (.slice (some ⟨tr, 0, none⟩) sets.length ct) ∧ z.cell? ⟨tr, i, none⟩ = some (.int .i64 (rd sets (i : Int))) := fun z hz =>
      ⟨(hz.cell (World.block_lt_of_cell? wr _ hfb)).trans hfb, (hz.cell (World.block_lt_of_cell? wr _ hx0)).trans hx0, (hz.cell (World.block_lt_of_cell? wr _ htb)).trans htb, (hz.cell (World.block_lt_of_cell? wr _ hel)).trans hel⟩
     have htrS : ¬ BxS sb lb cb bm tr := HI'.out.row.1 tr rfl
     have hSk : ∀ z : World, Kept w1 z (BxS sb lb cb bm) → z.cell? ⟨fb, 0, none⟩ = some (.func (.func 90) #[] #[.pointer (some ⟨seb, 0, none⟩), .pointer (some ⟨sb, 0, none⟩), .pointer (some ⟨lb, 0, none⟩), .pointer (some ⟨cb, 0, none⟩), .pointer (some ⟨tb, 0, none⟩), .pointer (some ⟨fb, 0, none⟩)]) ∧ z.cell? ⟨W.heap.size, 0, none⟩ = some (.int .i64 x) ∧ z.cell? ⟨tb, 0, none⟩ = some (.slice (some ⟨tr, 0, none⟩) sets.length ct) ∧ z.cell? ⟨tr, i, none⟩ = some (.int .i64 (rd sets (i : Int))) := fun z hz => by
      obtain ⟨q1, q2, q3, q4⟩ := hSb w1 hb1; refine ⟨YtmhomdohhihlcaaW.PrintWords.qiM q1 hz (fun e => ?_), YtmhomdohhihlcaaW.PrintWords.qiM q2 hz (fun e => ?_), YtmhomdohhihlcaaW.PrintWords.qiM q3 hz (fun e => ?_), YtmhomdohhihlcaaW.PrintWords.qiM q4 hz htrS⟩
      ·
       obtain ⟨a1, a2, a3, a4⟩ := HI'.out.n3
       rcases e with e | e | e | e
       ·
        exact a1 e
       ·
        exact a2 e
       ·
        exact a3 e
       ·
        exact a4 e
      ·
       have := HBS.out _ e
       exact absurd this (Nat.lt_irrefl _)
      ·
       obtain ⟨a1, a2, a3, a4⟩ := HI'.out.n2
       rcases e with e | e | e | e
       ·
        exact a1 e
       ·
        exact a2 e
       ·
        exact a3 e
       ·
        exact a4 e
     have HSk := qaa.mk hSk; have HSb := qaa.mk hSb; have HB1 := qaa.mk hb1; have HLP2 := qaa.mk hlp2; have HRUN := qaa.mk (show (Builtin.append_ #[37, 37] 37 #[.slice Av so.length so.length, .slice (some ⟨wr.heap.size, 0, none⟩) 1 1]).run Try.prog (wr.alloc (.cells #[.int .i64 (i : Int)] 3)).drew = .ok v1 w1 from hrun'); have HCALL := qaa.mk hcall; clear hSk htrS hSb hb1 hlp2 hrun' hcall hg1 hg0 hr1 hr1' hworz hxr hDD
     go_wp2
     go_upto_region 11 with (fail)
     go_region_held3 (fun z => z.cell? ⟨fb, 0, none⟩ = some (.func (.func 90) #[] #[.pointer (some ⟨seb, 0, none⟩), .pointer (some ⟨sb, 0, none⟩), .pointer (some ⟨lb, 0, none⟩), .pointer (some ⟨cb, 0, none⟩), .pointer (some ⟨tb, 0, none⟩), .pointer (some ⟨fb, 0, none⟩)]) ∧ z.cell? ⟨W.heap.size, 0, none⟩ = some (.int .i64 x) ∧ z.cell? ⟨tb, 0, none⟩ = some (.slice (some ⟨tr, 0, none⟩) sets.length ct) ∧ z.cell? ⟨tr, i, none⟩ = some (.int .i64 (rd sets (i : Int))))
      (first | exact HSb.out _ (qbx (Below.refl _ _)) | exact HSb.out _ (qbx (qac (Below.refl _ _) _)) | exact HSb.out _ (qac (qbx (Below.refl _ _)) _) | exact HSb.out _ HB1.out | exact HSk.out _ hKe | go_keep)
      (first | (refine qk6 ?hwA (.tmp 66) (.tmp 68) 37 37 rfl rfl rfl rfl HRUN.out ?_; (case hwA => rfl)) | (refine quw Try.func90 ?hnm rfl #[v1, .agg #[.int .i64 or], .int .i64 many, .pointer (some ⟨seb, 0, none⟩), .pointer (some ⟨sb, 0, none⟩), .pointer (some ⟨lb, 0, none⟩), .pointer (some ⟨cb, 0, none⟩), .pointer (some ⟨tb, 0, none⟩), .pointer (some ⟨fb, 0, none⟩)] 60 #[] #[.pointer (some ⟨seb, 0, none⟩), .pointer (some ⟨sb, 0, none⟩), .pointer (some ⟨lb, 0, none⟩), .pointer (some ⟨cb, 0, none⟩), .pointer (some ⟨tb, 0, none⟩), .pointer (some ⟨fb, 0, none⟩)] ?hwC rfl rfl ?hevC ?hagC ?_; (case hnm => kernel_rfl); (case hwC => rfl); (case hevC => rfl); (case hagC => simp only [List.map_toArray, List.map_cons, List.map_nil]; rfl); refine HCALL.out.mono ?_; rintro e W' ⟨⟨u, rfl⟩, hIe, hKe, hBe⟩; refine ⟨u, rfl, ?_⟩))
     all_goals
      have HIE := qaa.mk hIe; have HKE := qaa.mk hKe; have HBE := qaa.mk hBe; clear hIe hKe hBe
      go_wp2
      go_roundg d
      case measure => omega
      case rel => exact ⟨i + 1, by simp, ⟨by have := HD.out; omega⟩, ⟨_, HIE.out, HLP2.out⟩, ⟨(HK.out.below HB1.out).then_ HKE.out (fun k hk => .inl hk)⟩, ⟨(HB.out.trans (HB1.out.mono hNr)).trans HBE.out⟩⟩
    ·
     have hlp2 := HLP.out
     have hd0 : gk = 0 := by have := HD.out; omega
     subst hd0; rw [qaJ.lp] at hlp2; subst hlp2
     go_wp2
     go_end0
     exact ⟨⟨_, rfl⟩, HI'.out, ((Kept.of_below HBL.out _).then_ HK.out (fun k hk => .inl hk)), (HBL.out.mono hN).trans HB.out⟩
end
end Go.Proofs.Ytmhomdohhihlcaa.P
namespace Go.Proofs.Ytmhomdohhihlcaa.P
open Go.RowKit Go.Proofs.YtmhomdohhihlcaaW.PrintWords Go.Proofs.YtmhomdohhihlcaaW.PrintLast Go.Proofs.YtmhomdohhihlcaaW.PrintMore
def wi (a b c : Int) : Bool := decide (b ≤ a ∧ a ≤ c)
theorem qiB {a b c : Int} : wi a b c = true ↔ b ≤ a ∧ a ≤ c := by simp [wi]
theorem qgQ (a b c : Int) (w : World) : Calls Try.prog 65 #[.int .i64 a, .int .i64 b, .int .i64 c] w fun e w' => e = .returned (.bool (wi a b c)) ∧ qbn w w' := by
 refine qat.calls a b c (wi a b c) w ?_
 unfold qat.f wi
 by_cases h : b ≤ a
 ·
  rw [if_pos h]; simp [h]
 ·
  rw [if_neg h]; simp [h]
def qaJ.okc : List S136 → Bool → Bool
 | [], b => b
 | c :: cs, b => qaJ.okc cs (b && wi c.f0 0 10000 && wi c.f1 0 10000)
def qaJ.rowf (m : Int) : List Int → Int → Int → Option Int
 | [], _, acc => some acc
 | c :: cs, last, acc => if wi c (last + 1) (m - 1) = true then qaJ.rowf m cs c (Go.bits .or .i64 acc (shl .i64 1 c)) else none
def qaJ.rows (m : Int) : List (List Int) → Option (List Int)
 | [] => some []
 | l :: ls => (qaJ.rowf m l (-1) 0).bind fun x => (qaJ.rows m ls).map (x :: ·)
def qaJ.tries (cells : List S136) (sets : List Int) : Nat → Nat → BSt → BSt
 | 0, _, st => st
 | k + 1, many, st => qaJ.tries cells sets k (many + 1) (qaJ.cz cells sets (many : Int) sets.length [] 0 st)
def qaJ.g (l0 : List S136) (l1 : List (List Int)) (a2 : Int) : List Int × Int × Int × Int :=
 match qaJ.rows (l0.length : Int) l1 with
 | none => ([], 0, 0, 94)
 | some sets =>
  if qaJ.okc l0 (decide ((l0.length : Int) ≤ 12) && decide ((l1.length : Int) ≤ 8)) = true then
   if wi a2 0 8 = true then
    ((qaJ.tries l0 sets (min a2.toNat sets.length + 1) 0 ⟨[], 0, 0⟩).ch, (qaJ.tries l0 sets (min a2.toNat sets.length + 1) 0 ⟨[], 0, 0⟩).sp, (qaJ.tries l0 sets (min a2.toNat sets.length + 1) 0 ⟨[], 0, 0⟩).lo, 0)
   else ([], 0, 0, 7)
  else ([], 0, 0, 94)
def qaJ.f (l0 : List S136) (l1 : List (List Int)) (a2 : Int) : Option (List Int × Int × Int × Int) :=
 if l1.length ≤ 35184372088832 then some (qaJ.g l0 l1 a2) else none
structure Bx0 (w W : World) : Prop where
 c : W.heap[w.heap.size]? = some (.cells #[.slice none 0 0] 37 (0, 0))
 s : W.heap[w.heap.size + 1]? = some (.cells #[.int .i64 0] 3 (0, 0))
 l : W.heap[w.heap.size + 1 + 1]? = some (.cells #[.int .i64 0] 3 (0, 0))
 below : Below w.heap.size w W
theorem Bx0.keep {w W W1 : World} (h : Bx0 w W) (hb : Below W.heap.size W W1) : Bx0 w W1 := ⟨qam h.c hb, qam h.s hb, qam h.l hb, h.below.trans (hb.mono h.below.size)⟩
theorem Bx0.start (w : World) : Bx0 w (((w.alloc (.cells #[.slice none 0 0] 37)).alloc (.cells #[.int .i64 0] 3)).alloc (.cells #[.int .i64 0] 3)) := by
 refine ⟨qad (qad (World.alloc_heap_new w _) _) _, qad ?_ _, ?_, qac (qac (qac (Below.refl _ _) _) _) _⟩
 ·
  have := World.alloc_heap_new (w.alloc (.cells #[.slice none 0 0] 37)) (.cells #[.int .i64 0] 3)
  rwa [World.size_alloc] at this
 ·
  have := World.alloc_heap_new ((w.alloc (.cells #[.slice none 0 0] 37)).alloc (.cells #[.int .i64 0] 3)) (.cells #[.int .i64 0] 3)
  rwa [World.size_alloc, World.size_alloc] at this
theorem Bx0.again {w W : World} (h : Bx0 w W) : Bx0 w (((W.setCell ⟨w.heap.size, 0, none⟩ (.slice none 0 0)).setCell ⟨w.heap.size + 1, 0, none⟩ (.int .i64 0)).setCell ⟨w.heap.size + 1 + 1, 0, none⟩ (.int .i64 0)) :=
  ⟨qao (qao (qaE h.c 0 _ rfl) (p := ⟨w.heap.size + 1, 0, none⟩) (by simp) _) (p := ⟨w.heap.size + 1 + 1, 0, none⟩) (by simp; omega) _,
   qao (qaE (qao h.s (p := ⟨w.heap.size, 0, none⟩) (by simp) _) 0 _ rfl) (p := ⟨w.heap.size + 1 + 1, 0, none⟩) (by simp) _,
   qaE (qao (qao h.l (p := ⟨w.heap.size, 0, none⟩) (by simp; omega) _) (p := ⟨w.heap.size + 1, 0, none⟩) (by simp) _) 0 _ rfl,
   qah (qah (qah h.below (Nat.le_refl _)) (by omega)) (by omega)⟩
theorem results40 (tmps : Array Value) (W : World) (g1 g2 g3 : Nat) (v1 : Value) (n2 n3 : Int) (h6 : tmps.getD 6 undef = .pointer (some ⟨g1, 0, none⟩)) (h7 : tmps.getD 7 undef = .pointer (some ⟨g2, 0, none⟩)) (h8 : tmps.getD 8 undef = .pointer (some ⟨g3, 0, none⟩))
  (k1 : W.heap[g1]? = some (.cells #[v1] 37 (0, 0))) (k2 : W.heap[g2]? = some (.cells #[.int .i64 n2] 3 (0, 0))) (k3 : W.heap[g3]? = some (.cells #[.int .i64 n3] 3 (0, 0))) :
  (results Try.f40 tmps).run Try.prog W = .ok (.tuple #[v1, .int .i64 n2, .int .i64 n3, tmps.getD 9 undef]) W := by
 have c1 : W.cell? ⟨g1, 0, none⟩ = some v1 := (qaf k1 0).trans rfl
 have c2 : W.cell? ⟨g2, 0, none⟩ = some (.int .i64 n2) := (qaf k2 0).trans rfl
 have c3 : W.cell? ⟨g3, 0, none⟩ = some (.int .i64 n3) := (qaf k3 0).trans rfl
 have h6' : tmps[6]?.getD undef = .pointer (some ⟨g1, 0, none⟩) := by simpa using h6
 have h7' : tmps[7]?.getD undef = .pointer (some ⟨g2, 0, none⟩) := by simpa using h7
 have h8' : tmps[8]?.getD undef = .pointer (some ⟨g3, 0, none⟩) := by simpa using h8
 simp [results, Try.results40, asAddr, h6', h7', h8', go_sem, c1, c2, c3]
theorem qnQ : ∀ (l : List S136) (b : Bool), qaJ.okc l b = true → b = true
 | [], b, h => h
 | c :: cs, b, h => by
  have := qnQ cs _ h
  cases b with
  | true => rfl
  | false => simp at this
structure Bx1 (w : World) (tb n ct : Nat) (At : Option Addr) (sl : List Int) (W : World) : Prop where
 x : Bx0 w W
 t : W.heap[tb]? = some (.cells #[.slice At n ct] 137 (0, 0))
 r : Kd.R (Kd.int .i64) 139 W w.heap.size (fun _ => True) (.slice At n ct) sl
theorem Bx1.keep {w W W1 : World} {tb n ct : Nat} {At : Option Addr} {sl : List Int} (h : Bx1 w tb n ct At sl W) (hb : Below W.heap.size W W1) : Bx1 w tb n ct At sl W1 := ⟨h.x.keep hb, qam h.t hb, Kd.R_below h.r hb⟩
theorem Bx1.put {w W : World} {tb n ct tr : Nat} {sl : List Int} (h : Bx1 w tb n ct (some ⟨tr, 0, none⟩) sl W) (i : Nat) (x : Int) : Bx1 w tb n ct (some ⟨tr, 0, none⟩) (sl.set i x) (W.setCell ⟨tr, i, none⟩ (.int .i64 x)) := by
 obtain ⟨cs, hcs⟩ := Kd.R_typed h.r tr rfl
 have hne : ∀ {g t : Nat} {c : Array Value}, W.heap[g]? = some (.cells c t (0, 0)) → t ≠ 139 → g ≠ tr := fun {g t c} hg ht e => by
  rw [e, hcs] at hg
  injection hg with hg
  injection hg with _ hg
  exact ht hg.symm
 have hbt : w.heap.size ≤ tr := Kd.R_base h.r tr rfl
 have h1 := (Kd.R_putg h.r (i : Int) x).1
 rw [Int.toNat_natCast] at h1
 exact ⟨⟨qao h.x.c (p := ⟨tr, i, none⟩) (hne h.x.c (by decide)) _, qao h.x.s (p := ⟨tr, i, none⟩) (hne h.x.s (by decide)) _, qao h.x.l (p := ⟨tr, i, none⟩) (hne h.x.l (by decide)) _, qah h.x.below hbt⟩, qao h.t (p := ⟨tr, i, none⟩) (hne h.t (by decide)) _, h1⟩
theorem qkf {W : World} {g g' t t' : Nat} {c c' : Array Value} (h : W.heap[g]? = some (.cells c t (0, 0))) (h' : W.heap[g']? = some (.cells c' t' (0, 0))) (ht : t ≠ t') : g ≠ g' := fun e => by
 rw [e, h'] at h
 injection h with h
 injection h with _ h
 exact ht h.symm
theorem Bx1.ready {w W : World} {tb n ct c : Nat} {At A : Option Addr} {sl : List Int} {l0 : List S136} (h : Bx1 w tb n ct At sl W) (hn : sl.length = n) (hC : Kd.C k136 w A l0.length l0) (hc : l0.length ≤ c) :
  BxI w.heap.size (W.heap.size + 1) (w.heap.size + 1) (w.heap.size + 1 + 1) w.heap.size tb (W.heap.size + 1 + 1) W.heap.size A c l0 At ct sl
   (((W.alloc (.map #[] 0)).alloc (.cells #[.slice A l0.length c, .map (some W.heap.size)] 142)).alloc (.cells #[.func (.func 90) #[] #[.pointer (some ⟨W.heap.size + 1, 0, none⟩), .pointer (some ⟨w.heap.size + 1, 0, none⟩), .pointer (some ⟨w.heap.size + 1 + 1, 0, none⟩), .pointer (some ⟨w.heap.size, 0, none⟩), .pointer (some ⟨tb, 0, none⟩), .pointer (some ⟨W.heap.size + 1 + 1, 0, none⟩)]] 143)) ⟨[], 0, 0⟩ := by
 subst hn
 obtain ⟨Wf, hWf⟩ : ∃ Wf, (((W.alloc (.map #[] 0)).alloc (.cells #[.slice A l0.length c, .map (some W.heap.size)] 142)).alloc (.cells #[.func (.func 90) #[] #[.pointer (some ⟨W.heap.size + 1, 0, none⟩), .pointer (some ⟨w.heap.size + 1, 0, none⟩), .pointer (some ⟨w.heap.size + 1 + 1, 0, none⟩), .pointer (some ⟨w.heap.size, 0, none⟩), .pointer (some ⟨tb, 0, none⟩), .pointer (some ⟨W.heap.size + 1 + 1, 0, none⟩)]] 143)) = Wf := ⟨_, rfl⟩
 have hb : Below W.heap.size W Wf := by rw [← hWf]; exact qac (qac (qac (Below.refl _ _) _) _) _
 have hm : Wf.heap[W.heap.size]? = some (.map #[] 0) := by rw [← hWf]; exact qad (qad (World.alloc_heap_new W _) _) _
 have hs : Wf.heap[W.heap.size + 1]? = some (.cells #[.slice A l0.length c, .map (some W.heap.size)] 142 (0, 0)) := by
  rw [← hWf]
  refine qad ?_ _
  have := World.alloc_heap_new (W.alloc (.map #[] 0)) (.cells #[.slice A l0.length c, .map (some W.heap.size)] 142)
  rwa [World.size_alloc] at this
 have hf : Wf.heap[W.heap.size + 1 + 1]? = some (.cells #[.func (.func 90) #[] #[.pointer (some ⟨W.heap.size + 1, 0, none⟩), .pointer (some ⟨w.heap.size + 1, 0, none⟩), .pointer (some ⟨w.heap.size + 1 + 1, 0, none⟩), .pointer (some ⟨w.heap.size, 0, none⟩), .pointer (some ⟨tb, 0, none⟩), .pointer (some ⟨W.heap.size + 1 + 1, 0, none⟩)]] 143 (0, 0)) := by
  rw [← hWf]
  have := World.alloc_heap_new ((W.alloc (.map #[] 0)).alloc (.cells #[.slice A l0.length c, .map (some W.heap.size)] 142)) (.cells #[.func (.func 90) #[] #[.pointer (some ⟨W.heap.size + 1, 0, none⟩), .pointer (some ⟨w.heap.size + 1, 0, none⟩), .pointer (some ⟨w.heap.size + 1 + 1, 0, none⟩), .pointer (some ⟨w.heap.size, 0, none⟩), .pointer (some ⟨tb, 0, none⟩), .pointer (some ⟨W.heap.size + 1 + 1, 0, none⟩)]] 143)
  rwa [World.size_alloc, World.size_alloc] at this
 rw [hWf]
 have hlt0 := qaL h.x.l
 have hltt := qaL h.t
 have hbw : Below w.heap.size w Wf := h.x.below.trans (hb.mono h.x.below.size)
 have hrow : Kd.R (Kd.int .i64) 139 Wf w.heap.size (fun k => ¬ BxS (w.heap.size + 1) (w.heap.size + 1 + 1) w.heap.size W.heap.size k) (.slice At sl.length ct) sl := by
  refine Kd.R_mono (Kd.R_bound (Kd.R_below h.r hb)) (fun k hk e => ?_)
  obtain ⟨_, _, _, q, hq, cs, hcs⟩ := hk
  have hq9 : q = 139 := by simpa [Kd.int, Kd.scalar] using hq
  subst hq9
  rcases e with e | e | e | e
  ·
   exact qkf hcs (qam h.x.s hb) (by decide) e
  ·
   exact qkf hcs (qam h.x.l hb) (by decide) e
  ·
   exact qkf hcs (qam h.x.c hb) (by decide) e
  ·
   rw [e, hm] at hcs
   cases hcs
 refine ⟨hs, qam h.x.s hb, qam h.x.l hb, ⟨_, qam h.x.c hb, Kd.R_nil _ _ _ _ _⟩, qam h.t hb, hf, hrow, ⟨_, _, hm, fun e he => by simp at he⟩, Kd.C_below hC hbw, hc, ⟨by omega, by omega, by omega, by omega⟩,
  ⟨qkf h.t h.x.s (by decide), qkf h.t h.x.l (by decide), qkf h.t h.x.c (by decide), by omega⟩, ⟨by omega, by omega, by omega, by omega⟩, ⟨by omega, by omega, by omega, by omega, by omega, by omega⟩, ⟨by omega, by omega, by omega, by omega⟩, fun W' hb' => Kd.C_below hC (hbw.trans hb')⟩
theorem qsk : (Try.prog.info? 139).map (fun i => (i.zero, i.size, i.bytes)) = some (some (.agg #[.int .i64 0]), 1, 8) := by kernel_rfl
set_option maxHeartbeats 8000000 in
set_option maxRecDepth 100000 in
theorem qaJ.calls (A0 : Option Addr) (c0 : Nat) (l0 : List S136) (A1 : Option Addr) (c1 : Nat) (l1 : List (List Int)) (a2 : Int) (r1 : List Int) (r2 r3 r4 : Int) (w : World) (hr0 : Kd.C k136 w A0 l0.length l0) (hc0 : l0.length ≤ c0) (hr1 : Kd.C (Kd.slice 3 (Kd.int .i64)) w A1 l1.length l1) (hc1 : l1.length ≤ c1) (h : qaJ.f l0 l1 a2 = some (r1, r2, r3, r4)) :
  Calls Try.prog 40 #[.slice A0 l0.length c0, .slice A1 l1.length c1, .int .i64 a2] w fun e w' => ∃ v0_, e = .returned (.tuple #[v0_, .int .i64 r2, .int .i64 r3, .int .i64 r4]) ∧ Kd.V (Kd.int .i64) 3 w' w.heap.size (fun k_ => w.heap.size ≤ k_) v0_ r1 ∧ Below w.heap.size w w' := by
 obtain ⟨hsz, hg⟩ : l1.length ≤ 35184372088832 ∧ qaJ.g l0 l1 a2 = (r1, r2, r3, r4) := by
  unfold qaJ.f at h
  by_cases hs : l1.length ≤ 35184372088832
  ·
   rw [if_pos hs] at h
   exact ⟨hs, Option.some.inj h⟩
  ·
   rw [if_neg hs] at h
   cases h
 clear h
 have hmx0 : l0.length ≤ 9223372036854775807 := hr0.2.1
 have hmx1 : l1.length ≤ 9223372036854775807 := hr1.2.1
 have HR0 := qaa.mk hr0
 have HR1 := qaa.mk hr1
 have HG := qaa.mk hg
 have qpU := Try.underlying136
 obtain ⟨ok, hok⟩ : ∃ ok, qaJ.okc l0 (decide ((l0.length : Int) ≤ 12) && decide ((l1.length : Int) ≤ 8)) = ok := ⟨_, rfl⟩
 have HOK := qaa.mk hok
 have HX0 := qaa.mk (Bx0.start w)
 obtain ⟨ok1, hok1⟩ : ∃ b, (decide ((l0.length : Int) ≤ 12) && decide ((l1.length : Int) ≤ 8)) = b := ⟨_, rfl⟩
 rw [hok1] at HOK
 obtain ⟨W0, hW0⟩ : ∃ W0, ((w.alloc (.cells #[.slice none 0 0] 37)).alloc (.cells #[.int .i64 0] 3)).alloc (.cells #[.int .i64 0] 3) = W0 := ⟨_, rfl⟩
 rw [hW0] at HX0
 have HOK1 := qaa.mk hok1
 clear hr0 hr1 hg hok hok1
 go_enter Try.func40, Try.ntmps40
 go_upto_region 1 with (fail)
 go_cut [10] (fun v10 wc => v10 = .bool ok1 ∧ wc = W0)
 case first =>
  by_cases h12 : (l0.length : Int) ≤ 12
  ·
   have g12 : decide ((l0.length : Int) ≤ 12) = true := decide_eq_true h12
   by_cases h8 : (l1.length : Int) ≤ 8
   ·
    have g8 : decide ((l1.length : Int) ≤ 8) = true := decide_eq_true h8
    go_wp2
    go_meet
    case rel => exact ⟨by rw [← HOK1.out, g12, g8]; rfl, rfl⟩
   ·
    have g8 : decide ((l1.length : Int) ≤ 8) = false := decide_eq_false h8
    go_wp2
    go_meet
    case rel => exact ⟨by rw [← HOK1.out, g12, g8]; rfl, rfl⟩
  ·
   have g12 : decide ((l0.length : Int) ≤ 12) = false := decide_eq_false h12
   go_wp2
   go_meet
   case rel => exact ⟨by rw [← HOK1.out, g12]; rfl, rfl⟩
 case rest =>
  obtain ⟨rfl, rfl⟩ := hcut
  go_wp2
  go_loopg [10, 32] l0.length (fun d v10 v32 wr => ∃ (b : Bool) (i : Nat), v10 = .bool b ∧ v32 = .int .i64 (i : Int) ∧ qaa (i + d = l0.length) ∧ qaa (qaJ.okc (l0.drop i) b = ok) ∧ qaa (Bx0 w wr))
  case atStart => exact ⟨ok1, 0, rfl, rfl, ⟨by omega⟩, ⟨by simpa using HOK.out⟩, HX0⟩
  case round =>
   obtain ⟨b, i, rfl, rfl, HD, HO, HX⟩ := hrel
   by_cases hi : i < l0.length
   ·
    obtain ⟨d, rfl⟩ : ∃ d, gk = d + 1 := ⟨gk - 1, by have := HD.out; omega⟩; obtain ⟨ad, ea, hx0, hx1⟩ := qop HR0.out (i : Int) (by omega) (by omega); subst ea; replace hx0 := (HX.out.below.cell (World.block_lt_of_cell? w _ hx0)).trans hx0; replace hx1 := (HX.out.below.cell (World.block_lt_of_cell? w _ hx1)).trans hx1; rw [Int.toNat_natCast] at hx0 hx1
    have ho2 : qaJ.okc (l0.drop (i + 1)) (b && wi (qel l0 (i : Int)).f0 0 10000 && wi (qel l0 (i : Int)).f1 0 10000) = ok := by
     have h5 := HO.out
     have e : qel l0 (i : Int) = l0[i] := by simp [qel, List.getD_eq_getElem?_getD, List.getElem?_eq_getElem hi]
     rw [List.drop_eq_getElem_cons hi] at h5; rw [e]
     exact h5
    obtain ⟨e0, he0⟩ : ∃ e0, (qel l0 (i : Int)).f0 = e0 := ⟨_, rfl⟩; obtain ⟨e1, he1⟩ : ∃ e1, (qel l0 (i : Int)).f1 = e1 := ⟨_, rfl⟩; rw [he0] at hx0 ho2; rw [he1] at hx1 ho2; have HO2 := qaa.mk ho2; clear ho2 he0 he1 HO
    cases b with
    | false =>
     go_wp2
     go_roundg d
     case measure => omega
     case rel => exact ⟨false, i + 1, rfl, by simp, ⟨by have := HD.out; omega⟩, ⟨by simpa using HO2.out⟩, ⟨HX.out.keep (qac (Below.refl _ _) _)⟩⟩
    | true =>
     obtain ⟨b1, hb1⟩ : ∃ b1, wi e0 0 10000 = b1 := ⟨_, rfl⟩
     cases b1 with
     | false =>
      have HO3 := HO2.out; rw [hb1] at HO3
      go_wp2_with (go_at_call 65; refine (qgQ _ _ _ _).mono ?_; rintro e w' ⟨rfl, ⟨nd, rfl⟩⟩)
      go_roundg d
      case measure => omega
      case rel => exact ⟨false, i + 1, rfl, by simp, ⟨by have := HD.out; omega⟩, ⟨by simpa using HO3⟩, ⟨HX.out.keep (qab (qac (Below.refl _ _) _) _)⟩⟩
     | true =>
      have HO3 := HO2.out; rw [hb1] at HO3
      go_wp2_with (go_at_call 65; refine (qgQ _ _ _ _).mono ?_; rintro e w' ⟨rfl, ⟨nd, rfl⟩⟩)
      go_roundg d
      case measure => omega
      case rel => exact ⟨wi e1 0 10000, i + 1, rfl, by simp, ⟨by have := HD.out; omega⟩, ⟨by simpa using HO3⟩, ⟨HX.out.keep (by repeat (first | exact Below.refl _ _ | apply qab | apply qac))⟩⟩
   ·
    have hio : b = ok := by
     have h5 := HO.out; rw [List.drop_eq_nil_of_le (by omega)] at h5
     exact h5
    subst hio; clear HD HO
    go_wp2_with ((with_reducible refine quS (.makeSlice 137 (.tmp 49) (.tmp 49)) rfl ?_); refine Kd.R_make (Kd.int .i64) w.heap.size 139 rfl (N := 50) rfl 137 _ _ rfl (l1.length : Int) rfl rfl Try.underlying137 (.agg #[.int .i64 0]) 8 qsk rfl (by decide) (by omega) 0 (ok := fun _ => True) (okp := fun _ => True) rfl (fun _ hk => hk) trivial (by omega) (by simp; omega) HX.out.below HX.out.below.size ?_; intro v1 w1 hv1 hb1 hg1 hn1; obtain ⟨At, ct, ev, hct, hCt⟩ := Kd.R_reads hv1; rw [List.length_replicate, Int.toNat_natCast] at ev; subst ev)
    clear hi
    have hX1 : Bx1 w w1.heap.size l1.length ct At (List.replicate l1.length 0) (w1.alloc (.cells #[.slice At l1.length ct] 137)) := by
     rw [Int.toNat_natCast] at hv1
     exact ⟨(HX.out.keep ((Below.refl _ wr).grown hg1 (Nat.le_refl _) (fun k e => by cases e))).keep (qac (Below.refl _ _) _), World.alloc_heap_new _ _, Kd.R_below hv1 (qac (Below.refl _ _) _)⟩
    have hnt : w1.heap.size < (w1.alloc (.cells #[.slice At l1.length ct] 137)).heap.size := by simp
    have HX1 := qaa.mk hX1; obtain ⟨rr, hrr⟩ : ∃ rr, qaJ.rows (l0.length : Int) l1 = rr := ⟨_, rfl⟩; have HRR := qaa.mk hrr; obtain ⟨tb, htb⟩ : ∃ tb, w1.heap.size = tb := ⟨_, rfl⟩; rw [htb] at HX1 ⊢; clear hX1 hrr hv1 hb1 hg1 hn1 hct hCt HX hnt
    go_loopg [53] l1.length (fun d v53 wr => ∃ (i : Nat), v53 = .int .i64 (i : Int) ∧ qaa (i + d = l1.length) ∧ qaa (∃ done : List Int, done.length = i ∧ rr = (qaJ.rows (l0.length : Int) (l1.drop i)).map (done ++ ·) ∧ Bx1 w tb l1.length ct At (done ++ List.replicate (l1.length - i) 0) wr))
    case atStart => exact ⟨0, rfl, ⟨by omega⟩, ⟨[], rfl, by rw [List.drop_zero, HRR.out]; simp, by simpa using HX1.out⟩⟩
    case round =>
     clear HX1 htb; obtain ⟨i, rfl, HD, HE⟩ := hrel; obtain ⟨done, hdl, hdr, hX⟩ := HE.out
     by_cases hi : i < l1.length
     ·
      obtain ⟨d, rfl⟩ : ∃ d, gk = d + 1 := ⟨gk - 1, by have := HD.out; omega⟩; obtain ⟨ad, Al, cl, ea, hxl, hcl, hCl⟩ := qnf HR1.out (i : Int) (by omega) (by omega); subst ea; replace hxl := (hX.x.below.cell (World.block_lt_of_cell? w _ hxl)).trans hxl; rw [Int.toNat_natCast] at hxl; obtain ⟨lst, hlst⟩ : ∃ lst, qaT l1 (i : Int) = lst := ⟨_, rfl⟩; rw [hlst] at hxl hcl hCl
      have hdrop : l1.drop i = lst :: l1.drop (i + 1) := by
       rw [List.drop_eq_getElem_cons hi, ← hlst]
       congr 1
       simp [qaT, List.getD_eq_getElem?_getD, List.getElem?_eq_getElem hi]
      have hdr2 : rr = ((qaJ.rowf (l0.length : Int) lst (-1) 0).bind fun x => (qaJ.rows (l0.length : Int) (l1.drop (i + 1))).map (x :: ·)).map (done ++ ·) := by rw [hdr, hdrop]; rfl
      have hrep : List.replicate (l1.length - i) (0 : Int) = 0 :: List.replicate (l1.length - (i + 1)) 0 := by
       rw [show l1.length - i = (l1.length - (i + 1)) + 1 by omega, List.replicate_succ]
      rw [hrep] at hX; have hmxl : lst.length ≤ 9223372036854775807 := hCl.2.1; have HX := qaa.mk hX; have HCL := qaa.mk hCl; have HDL := qaa.mk hdl; have HDR2 := qaa.mk hdr2; clear hX hCl hdl hdr2 hdr hdrop hrep hlst hcl HE; obtain ⟨wo, hwo⟩ : ∃ wo : World, wo = wr := ⟨_, rfl⟩; subst hwo
      go_wp2
      go_loopg [16, 60] lst.length (fun d2 v16 v60 wr => ∃ (last : Int) (j : Nat) (acc : Int), v16 = .int .i64 last ∧ v60 = .int .i64 (j : Int) ∧ qaa (j + d2 = lst.length) ∧ qaa (-1 ≤ last ∧ last < (l0.length : Int) ∨ last = -1) ∧ qaa (qaJ.rowf (l0.length : Int) lst (-1) 0 = qaJ.rowf (l0.length : Int) (lst.drop j) last acc) ∧ qaa (Bx1 w tb l1.length ct At (done ++ acc :: List.replicate (l1.length - (i + 1)) 0) wr))
      case atStart => exact ⟨-1, 0, 0, rfl, rfl, ⟨by omega⟩, ⟨.inr rfl⟩, ⟨by simp⟩, HX⟩
      case round =>
       obtain ⟨last, j, acc, rfl, rfl, HD2, HLA, HRO, HX2⟩ := hrel
       have hla : -1 ≤ last ∧ last ≤ 9223372036854775806 := by rcases HLA.out with h | h <;> omega
       clear HX
       by_cases hj : j < lst.length
       ·
        obtain ⟨d2, rfl⟩ : ∃ d2, gk = d2 + 1 := ⟨gk - 1, by have := HD2.out; omega⟩; obtain ⟨adl, eal, hxc⟩ := Kd.at_int (Kd.C_below HCL.out HX2.out.x.below) (j : Int) (by omega) (by omega); subst eal; rw [Int.toNat_natCast] at hxc; obtain ⟨cc, hcc⟩ : ∃ cc, rd lst (j : Int) = cc := ⟨_, rfl⟩
        have hro2 : qaJ.rowf (l0.length : Int) lst (-1) 0 = if wi cc (last + 1) ((l0.length : Int) - 1) = true then qaJ.rowf (l0.length : Int) (lst.drop (j + 1)) cc (Go.bits .or .i64 acc (shl .i64 1 cc)) else none := by
         rw [HRO.out, List.drop_eq_getElem_cons hj, ← hcc]
         have e : rd lst (j : Int) = lst[j] := by simp [rd, List.getD_eq_getElem?_getD, List.getElem?_eq_getElem hj]
         rw [e]
         rfl
        rw [hcc] at hxc; clear hcc HRO
        by_cases hw : wi cc (last + 1) ((l0.length : Int) - 1) = true
        ·
         rw [if_pos hw] at hro2; have HRO2 := qaa.mk hro2; clear hro2; obtain ⟨hw1, hw2⟩ := qiB.1 hw; obtain ⟨tr, cr, er, _, _, _, _⟩ := Kd.R_form HX2.out.r (by simp; omega)
         injection er with e1 e0 e2
         clear e0; subst e1 e2; have hX3 := HX2.out; clear HX2
         have hel : wr.cell? ⟨tr, i, none⟩ = some (.int .i64 acc) := by
          obtain ⟨ad2, ea2, hel⟩ := Kd.at_int (Kd.R_reads' hX3.r).2.2 (i : Int) (by omega) (by have := HDL.out; simp; omega)
          injection ea2 with ea2
          subst ea2; rw [Int.toNat_natCast, qey] at hel; rw [hel]; have := HDL.out
          simp [rd, List.getD_eq_getElem?_getD, this]
         obtain ⟨gcs, hgcs⟩ := Kd.R_typed hX3.r tr rfl; have hef : wr.frozen? ⟨tr, i, none⟩ = false := qaj hgcs i; have htb : wr.cell? ⟨tb, 0, none⟩ = some (.slice (some ⟨tr, 0, none⟩) l1.length ct) := (qaf hX3.t 0).trans rfl; obtain ⟨sh, hsh⟩ : ∃ sh, shl .i64 1 cc = sh := ⟨_, rfl⟩; have hr3 := HRO2.out; rw [hsh] at hr3; have HRO3 := qaa.mk hr3; have hji_ : (IntKind.i64.wrap (1 * 2 ^ min cc.toNat 64)) = sh := hsh; have hjiz : cc ≤ 64 → (IntKind.i64.wrap (1 * 2 ^ cc.toNat)) = sh := qqj hsh
         have hjiu : (IntKind.i64.wrap (2 ^ min cc.toNat 64)) = sh := by have h_ := hji_; rw [Int.one_mul] at h_; exact h_
         have hjiv : cc ≤ 64 → (IntKind.i64.wrap (2 ^ cc.toNat)) = sh := fun hle_ => by have h_ := hjiz hle_; rw [Int.one_mul] at h_; exact h_
         obtain ⟨or, hor⟩ : ∃ o, Go.bits .or .i64 acc sh = o := ⟨_, rfl⟩; have HX3 := qaa.mk hX3; clear hX3 hgcs hsh hr3 HRO2
         have hcc0 : 0 ≤ cc := by omega
         go_wp2_with (go_at_call 65; refine (qgQ _ _ _ _).mono ?_; rintro e w' ⟨rfl, ⟨nd, rfl⟩⟩)
         obtain ⟨w9, hw9⟩ : ∃ w9, wr.drewN nd = w9 := ⟨_, rfl⟩
         have hel9 : w9.cell? ⟨tr, i, none⟩ = some (.int .i64 acc) := by rw [← hw9]; exact hel
         have hef9 : w9.frozen? ⟨tr, i, none⟩ = false := by rw [← hw9]; exact hef
         have htb9 : w9.cell? ⟨tb, 0, none⟩ = some (.slice (some ⟨tr, 0, none⟩) l1.length ct) := by rw [← hw9]; exact htb
         have HX9 := qaa.mk (show Bx1 w tb l1.length ct (some ⟨tr, 0, none⟩) (done ++ acc :: List.replicate (l1.length - (i + 1)) 0) w9 by rw [← hw9]; exact HX3.out.keep (qab (Below.refl _ _) nd)); rw [hw9]; clear hw9 hel hef htb HX3
         go_still_tail 10, (by kernel_rfl)
         change wpList _ _ _ _ _ (World.drew _)
         go_wp2
         go_roundg d2
         case measure => omega
         case rel =>
          have hset : (done ++ acc :: List.replicate (l1.length - (i + 1)) 0).set i or = done ++ or :: List.replicate (l1.length - (i + 1)) 0 := by
           rw [← HDL.out, List.set_append_right _ _ (Nat.le_refl _), Nat.sub_self, List.set_cons_zero]
          have hput := HX9.out.put i or; rw [hset] at hput; refine ⟨cc, j + 1, or, rfl, by simp, ⟨by have := HD2.out; omega⟩, ⟨.inl ⟨by omega, by omega⟩⟩, ⟨?_⟩, ⟨hput.keep (qbx (Below.refl _ _))⟩⟩; rw [HRO3.out, hor]
        ·
         replace hw := Bool.eq_false_iff.mpr hw; rw [if_neg (by rw [hw]; decide)] at hro2
         have hrn : rr = none := by rw [HDR2.out, hro2]; rfl
         have hg := HG.out; unfold qaJ.g at hg; rw [HRR.out, hrn] at hg; replace hg : (([], 0, 0, 94) : List Int × Int × Int × Int) = (r1, r2, r3, r4) := hg
         injection hg with e1 hg
         injection hg with e2 hg
         injection hg with e3 e4
         subst e1 e2 e3 e4; clear hro2 hrn; have hcb : wr.cell? ⟨w.heap.size, 0, none⟩ = some (.slice none 0 0) := (qaf HX2.out.x.c 0).trans rfl; have hsb : wr.cell? ⟨w.heap.size + 1, 0, none⟩ = some (.int .i64 0) := (qaf HX2.out.x.s 0).trans rfl; have hlb : wr.cell? ⟨w.heap.size + 1 + 1, 0, none⟩ = some (.int .i64 0) := (qaf HX2.out.x.l 0).trans rfl; have hfc := qaj HX2.out.x.c 0; have hfs := qaj HX2.out.x.s 0; have hfl := qaj HX2.out.x.l 0
         go_wp2_with (go_at_call 65; refine (qgQ _ _ _ _).mono ?_; rintro e w' ⟨rfl, ⟨nd, rfl⟩⟩)
         have hXf := (HX2.out.x.keep (qab (Below.refl _ _) nd)).again; refine bodyPost_ret (results40 _ _ _ _ _ (.slice none 0 0) 0 0 rfl rfl rfl hXf.c hXf.s hXf.l) rfl ?_
         exact ⟨_, rfl, Kd.V_nil _ _ _ _ _, hXf.below⟩
       ·
        have hjl : j = lst.length := by have := HD2.out; omega
        subst hjl; have hr5 := HRO.out; rw [List.drop_length] at hr5; replace hr5 : qaJ.rowf (l0.length : Int) lst (-1) 0 = some acc := hr5
        have hr6 : rr = (qaJ.rows (l0.length : Int) (l1.drop (i + 1))).map ((done ++ [acc]) ++ ·) := by
         rw [HDR2.out, hr5]
         cases qaJ.rows (l0.length : Int) (l1.drop (i + 1)) with
         | none => rfl
         | some z => simp
        have HR6 := qaa.mk hr6; clear hr5 hr6 HRO
        go_wp2
        go_roundg d
        case measure => omega
        case rel =>
         refine ⟨i + 1, by simp, ⟨by have := HD.out; omega⟩, ⟨done ++ [acc], by have := HDL.out; simp; omega, HR6.out, ?_⟩⟩; have h7 := HX2.out
         rwa [List.append_cons] at h7
     ·
      have hil : i = l1.length := by have := HD.out; omega
      subst hil; rw [List.drop_length] at hdr; replace hdr : rr = some (done ++ []) := hdr; rw [List.append_nil] at hdr; rw [Nat.sub_self, List.replicate_zero, List.append_nil] at hX; have hg := HG.out; unfold qaJ.g at hg; rw [HRR.out, hdr] at hg
      replace hg : (if qaJ.okc l0 (decide ((l0.length : Int) ≤ 12) && decide ((l1.length : Int) ≤ 8)) = true then
   if wi a2 0 8 = true then
    ((qaJ.tries l0 done (min a2.toNat done.length + 1) 0 ⟨[], 0, 0⟩).ch, (qaJ.tries l0 done (min a2.toNat done.length + 1) 0 ⟨[], 0, 0⟩).sp, (qaJ.tries l0 done (min a2.toNat done.length + 1) 0 ⟨[], 0, 0⟩).lo, 0)
   else ([], 0, 0, 7)
  else ([], 0, 0, 94)) = (r1, r2, r3, r4) := hg
      rw [HOK1.out, HOK.out] at hg; have HX := qaa.mk hX; have HDL := qaa.mk hdl; clear hX hdl hdr HE
      cases b with
      | false =>
       rw [if_neg (by decide)] at hg
       injection hg with e1 hg
       injection hg with e2 hg
       injection hg with e3 e4
       subst e1 e2 e3 e4; have hcb : wr.cell? ⟨w.heap.size, 0, none⟩ = some (.slice none 0 0) := (qaf HX.out.x.c 0).trans rfl; have hsb : wr.cell? ⟨w.heap.size + 1, 0, none⟩ = some (.int .i64 0) := (qaf HX.out.x.s 0).trans rfl; have hlb : wr.cell? ⟨w.heap.size + 1 + 1, 0, none⟩ = some (.int .i64 0) := (qaf HX.out.x.l 0).trans rfl; have hfc := qaj HX.out.x.c 0; have hfs := qaj HX.out.x.s 0; have hfl := qaj HX.out.x.l 0
       go_wp2
       have hXf := HX.out.x.again; refine bodyPost_ret (results40 _ _ _ _ _ (.slice none 0 0) 0 0 rfl rfl rfl hXf.c hXf.s hXf.l) rfl ?_
       exact ⟨_, rfl, Kd.V_nil _ _ _ _ _, hXf.below⟩
      | true =>
       rw [if_pos rfl] at hg
       by_cases hw8 : wi a2 0 8 = true
       ·
        rw [if_pos hw8] at hg
        have hn8 : done.length ≤ 8 := by
         have h1 := HOK.out; have h1 := qnQ _ _ h1; rw [← HOK1.out] at h1; have := HDL.out
         simp at h1
         omega
        obtain ⟨ha0, ha8⟩ := qiB.1 hw8; obtain ⟨stF, hstF⟩ : ∃ stF, qaJ.tries l0 done (min a2.toNat done.length + 1) 0 ⟨[], 0, 0⟩ = stF := ⟨_, rfl⟩; rw [hstF] at hg
        injection hg with e1 hg
        injection hg with e2 hg
        injection hg with e3 e4
        subst e1 e2 e3 e4; have HST := qaa.mk hstF; have htb : wr.cell? ⟨tb, 0, none⟩ = some (.slice At l1.length ct) := (qaf HX.out.t 0).trans rfl; have hmm := @run_makeMap Try.prog; have qru := Try.underlying142; have hltt := qaL HX.out.t; have hw8b : wi a2 0 8 = true := hw8; clear hstF hw8
        go_upto_region 25 with ((go_at_call 65; refine (qgQ _ _ _ _).mono ?_; rintro e w' ⟨rfl, ⟨nd, rfl⟩⟩))
        obtain ⟨w9, hw9⟩ : ∃ w9, wr.drewN nd = w9 := ⟨_, rfl⟩; have HX9 := qaa.mk (show Bx1 w tb l1.length ct At done w9 by rw [← hw9]; exact HX.out.keep (qab (Below.refl _ _) nd)); rw [hw9]; clear hw9 htb HX; have hR := HX9.out.ready HDL.out HR0.out hc0; obtain ⟨W3, hW3⟩ : ∃ W3, (((w9.alloc (.map #[] 0)).alloc (.cells #[.slice A0 l0.length c0, .map (some w9.heap.size)] 142)).alloc (.cells #[.func (.func 90) #[] #[.pointer (some ⟨w9.heap.size + 1, 0, none⟩), .pointer (some ⟨w.heap.size + 1, 0, none⟩), .pointer (some ⟨w.heap.size + 1 + 1, 0, none⟩), .pointer (some ⟨w.heap.size, 0, none⟩), .pointer (some ⟨tb, 0, none⟩), .pointer (some ⟨w9.heap.size + 1 + 1, 0, none⟩)]] 143)) = W3 := ⟨_, rfl⟩; have hB3 : Below w.heap.size w W3 := HX9.out.x.below.trans (by rw [← hW3]; exact (qac (qac (qac (Below.refl _ _) _) _) _).mono HX9.out.x.below.size); rw [hW3] at hR; have HR := qaa.mk hR; have HB3 := qaa.mk hB3; have htb3 : W3.cell? ⟨tb, 0, none⟩ = some (.slice At done.length ct) := (qaf hR.tbx 0).trans rfl; have qDC := qaL HX9.out.t; obtain ⟨mm, hmn⟩ : ∃ mm : Nat, (if (done.length : Int) < a2 then (done.length : Int) else a2) = (mm : Int) := ⟨min a2.toNat done.length, by split <;> omega⟩
        have hmin : min a2.toNat done.length = mm := by split at hmn <;> omega
        have HMM := qaa.mk hmin
        have hm8 : mm ≤ 8 := by omega
        clear hR hB3 hmin
        go_wp2
        have hst2 := HST.out; rw [HMM.out] at hst2; have HST2 := qaa.mk hst2; clear hst2 htb3 hmn hmm hW3
        go_loopg [99] (mm + 1) (fun d v99 wr => ∃ (k : Nat), v99 = .int .i64 (k : Int) ∧ qaa (k + d = mm + 1) ∧ qaa (∃ st', BxI w.heap.size (w9.heap.size + 1) (w.heap.size + 1) (w.heap.size + 1 + 1) w.heap.size tb (w9.heap.size + 1 + 1) w9.heap.size A0 c0 l0 At ct done wr st' ∧ qaJ.tries l0 done d k st' = stF) ∧ qaa (Below w.heap.size w wr))
        case atStart => exact ⟨0, rfl, ⟨by omega⟩, ⟨_, HR.out, HST2.out⟩, HB3⟩
        case round =>
         obtain ⟨k, rfl, HK4, HS4, HB4⟩ := hrel; obtain ⟨st', hI4, hT4⟩ := HS4.out
         by_cases hk : k < mm + 1
         ·
          obtain ⟨d, rfl⟩ : ∃ d, gk = d + 1 := ⟨gk - 1, by have := HK4.out; omega⟩
          have hki : (k : Int) < (mm : Int) + 1 := by omega
          have hfb : wr.cell? ⟨w9.heap.size + 1 + 1, 0, none⟩ = some (.func (.func 90) #[] #[.pointer (some ⟨w9.heap.size + 1, 0, none⟩), .pointer (some ⟨w.heap.size + 1, 0, none⟩), .pointer (some ⟨w.heap.size + 1 + 1, 0, none⟩), .pointer (some ⟨w.heap.size, 0, none⟩), .pointer (some ⟨tb, 0, none⟩), .pointer (some ⟨w9.heap.size + 1 + 1, 0, none⟩)]) := (qaf hI4.fbx 0).trans rfl; have hNw : w.heap.size ≤ wr.heap.size := HB4.out.size; have hcall := qgd.calls (many := (k : Int)) hn8 done.length (.slice none 0 0) [] 0 st' wr (.inl ⟨rfl, rfl⟩) (by simp) hI4 hNw (Kd.R_nil _ _ _ _ _) (by decide); have HCALL := qaa.mk hcall; have HT4 := qaa.mk (show qaJ.tries l0 done d (k + 1) (qaJ.cz l0 done (k : Int) done.length [] 0 st') = stF from hT4); clear hcall hT4 hI4 HS4
          go_wp2_with ((with_reducible refine qaN (N := 105) rfl ?_); refine qi9 (some 105) rfl rfl Try.func90 ?hnm rfl #[.slice none 0 0, .agg #[.int .i64 0], .int .i64 (k : Int), .pointer (some ⟨w9.heap.size + 1, 0, none⟩), .pointer (some ⟨w.heap.size + 1, 0, none⟩), .pointer (some ⟨w.heap.size + 1 + 1, 0, none⟩), .pointer (some ⟨w.heap.size, 0, none⟩), .pointer (some ⟨tb, 0, none⟩), .pointer (some ⟨w9.heap.size + 1 + 1, 0, none⟩)] 102 #[] #[.pointer (some ⟨w9.heap.size + 1, 0, none⟩), .pointer (some ⟨w.heap.size + 1, 0, none⟩), .pointer (some ⟨w.heap.size + 1 + 1, 0, none⟩), .pointer (some ⟨w.heap.size, 0, none⟩), .pointer (some ⟨tb, 0, none⟩), .pointer (some ⟨w9.heap.size + 1 + 1, 0, none⟩)] rfl ?hevC ?hagC ?_; (case hnm => kernel_rfl); (case hevC => rfl); (case hagC => simp only [List.map_toArray, List.map_cons, List.map_nil]; rfl); refine HCALL.out.mono ?_; rintro e W' ⟨⟨u, rfl⟩, hIe, hKe, hBe⟩; refine ⟨u, rfl, ?_⟩)
          go_roundg d
          case measure => omega
          case rel => exact ⟨k + 1, by simp, ⟨by have := HK4.out; omega⟩, ⟨_, hIe, HT4.out⟩, ⟨HB4.out.trans hBe⟩⟩
         ·
          have hki : ¬ ((k : Int) < (mm : Int) + 1) := by omega
          have hd0 : gk = 0 := by have := HK4.out; omega
          subst hd0; replace hT4 : st' = stF := hT4; subst hT4; obtain ⟨vc, hcb, hcr⟩ := hI4.chb; have hc6 : wr.cell? ⟨w.heap.size, 0, none⟩ = some vc := (qaf hcb 0).trans rfl; have hc7 : wr.cell? ⟨w.heap.size + 1, 0, none⟩ = some (.int .i64 st'.sp) := (qaf hI4.spb 0).trans rfl; have hc8 : wr.cell? ⟨w.heap.size + 1 + 1, 0, none⟩ = some (.int .i64 st'.lo) := (qaf hI4.lob 0).trans rfl; have hf6 := qaj hcb 0; have hf7 := qaj hI4.spb 0; have hf8 := qaj hI4.lob 0; obtain ⟨Ac, cc, rfl, hcc, hCc⟩ := Kd.R_reads hcr; have HI4 := qaa.mk hI4; have HCR := qaa.mk hcr; clear hI4 hcr hcb HS4 hCc
          go_wp2
          go_region
          go_wp2
          obtain ⟨g1, g2, g3⟩ := HI4.out.put (s1 := st'.sp) (s2 := st'.lo) HCR.out; obtain ⟨v7, k1, k2⟩ := g1.chb; have hbd := (g2.1); have hf1 := (qaE (qao (qao HI4.out.lob (p := ⟨w.heap.size, 0, none⟩) HI4.out.n4.2.2.2.1 (.slice Ac st'.ch.length cc)) (p := ⟨w.heap.size + 1, 0, none⟩) (Ne.symm HI4.out.n4.1) (.int .i64 st'.sp)) 0 (.int .i64 st'.lo) rfl)
          have hk6 : (((wr.setCell ⟨w.heap.size, 0, none⟩ (.slice Ac st'.ch.length cc)).setCell ⟨w.heap.size + 1, 0, none⟩ (.int .i64 st'.sp)).setCell ⟨w.heap.size + 1 + 1, 0, none⟩ (.int .i64 st'.lo)).heap[w.heap.size]? = some (.cells #[.slice Ac st'.ch.length cc] 37 (0, 0)) := by
           obtain ⟨v0, q1, _⟩ := HI4.out.chb
           exact qao (qao (qaE q1 0 _ rfl) (p := ⟨w.heap.size + 1, 0, none⟩) (by simp) _) (p := ⟨w.heap.size + 1 + 1, 0, none⟩) (by simp; omega) _
          have hRf : Kd.R (Kd.int .i64) 3 (((wr.setCell ⟨w.heap.size, 0, none⟩ (.slice Ac st'.ch.length cc)).setCell ⟨w.heap.size + 1, 0, none⟩ (.int .i64 st'.sp)).setCell ⟨w.heap.size + 1 + 1, 0, none⟩ (.int .i64 st'.lo)).drew w.heap.size (fun k_ => w.heap.size ≤ k_) (.slice Ac st'.ch.length cc) st'.ch :=
           Kd.R_drew (Kd.R_mono (Kd.R_bound (Kd.R_kept HCR.out g2 (fun k hk => hk))) (fun k hk => hk.2.1))
          refine bodyPost_ret (results40 _ _ _ _ _ (.slice Ac st'.ch.length cc) st'.sp st'.lo rfl rfl rfl hk6 g1.spb g1.lob) rfl ?_
          exact ⟨_, rfl, Kd.R_V hRf, (HB4.out.trans g3).trans (qbx (Below.refl w.heap.size _))⟩
       ·
        replace hw8 := Bool.eq_false_iff.mpr hw8; rw [if_neg (by rw [hw8]; decide)] at hg
        injection hg with e1 hg
        injection hg with e2 hg
        injection hg with e3 e4
        subst e1 e2 e3 e4; have hcb : wr.cell? ⟨w.heap.size, 0, none⟩ = some (.slice none 0 0) := (qaf HX.out.x.c 0).trans rfl; have hsb : wr.cell? ⟨w.heap.size + 1, 0, none⟩ = some (.int .i64 0) := (qaf HX.out.x.s 0).trans rfl; have hlb : wr.cell? ⟨w.heap.size + 1 + 1, 0, none⟩ = some (.int .i64 0) := (qaf HX.out.x.l 0).trans rfl; have hfc := qaj HX.out.x.c 0; have hfs := qaj HX.out.x.s 0; have hfl := qaj HX.out.x.l 0
        go_wp2_with (go_at_call 65; refine (qgQ _ _ _ _).mono ?_; rintro e w' ⟨rfl, ⟨nd, rfl⟩⟩)
        have hXf := (HX.out.x.keep (qab (Below.refl _ _) nd)).again; refine bodyPost_ret (results40 _ _ _ _ _ (.slice none 0 0) 0 0 rfl rfl rfl hXf.c hXf.s hXf.l) rfl ?_
        exact ⟨_, rfl, Kd.V_nil _ _ _ _ _, hXf.below⟩
end Go.Proofs.Ytmhomdohhihlcaa.P
namespace Go.Proofs.Ytmhomdohhihlcaa.P
open Go.RowKit Go.Shelf Go.Proofs.YtmhomdohhihlcaaW.PrintWords Go.Proofs.YtmhomdohhihlcaaW.PrintLast Go.Proofs.YtmhomdohhihlcaaW.PrintMore
attribute [local go_sem] Oper.semAt_some
set_option maxHeartbeats 4000000 in
set_option maxRecDepth 100000 in
theorem qm5 (n : Nat) (R : Nat) (rb B : Nat) (w : World) (hR1 : 1 ≤ R) (hR3 : R ≤ 3) (hB : B ≤ rb) (hr : w.heap[rb]? = some (.cells #[.int .i64 R] 3 (0, 0))) :
  qj6 n Try.prog 95 #[.pointer (some ⟨rb, 0, none⟩)] B (qf5 (R - 1) 100 []) w := by
 intro l J W hW hJ0 hJ hY h0
 have hmix : Try.prog.follows .mixedOrders = true := by kernel_rfl
 have hrW : W.heap[rb]? = some (.cells #[.int .i64 R] 3 (0, 0)) := (hW.block rb (qaL hr)).trans hr
 have hrlt : rb < W.heap.size := qaL hrW
 obtain ⟨Wb, hWb⟩ : ∃ Wb, (W.alloc (.cells #[.func (.yield l) #[] #[]] 147)).alloc (.cells #[.nilFunc] 87) = Wb := ⟨_, rfl⟩
 have hby : Wb.heap[W.heap.size]? = some (.cells #[.func (.yield l) #[] #[]] 147 (0, 0)) := by
  rw [← hWb]; exact (Below.heap_alloc _ _ _ (by simp)).trans (World.alloc_heap_new W _)
 have hbf : Wb.heap[W.heap.size + 1]? = some (.cells #[.nilFunc] 87 (0, 0)) := by
  rw [← hWb]; have := World.alloc_heap_new (W.alloc (.cells #[.func (.yield l) #[] #[]] 147)) (.cells #[.nilFunc] 87); rwa [World.size_alloc] at this
 have hbr : Wb.heap[rb]? = some (.cells #[.int .i64 R] 3 (0, 0)) := by
  rw [← hWb]; exact (Below.heap_alloc _ _ _ (by simp; omega)).trans ((Below.heap_alloc _ _ _ hrlt).trans hrW)
 have hsz : Wb.heap.size = W.heap.size + 2 := by rw [← hWb]; simp
 have hcf := (qaf hbf 0).trans (show _ = some Value.nilFunc from rfl)
 have hff := qaj hbf 0
 obtain ⟨Wf, hWf⟩ : ∃ Wf, Wb.setCell ⟨W.heap.size + 1, 0, none⟩ (.func (.func 96) #[] #[.pointer (some ⟨rb, 0, none⟩), .pointer (some ⟨W.heap.size, 0, none⟩), .pointer (some ⟨W.heap.size + 1, 0, none⟩)]) = Wf := ⟨_, rfl⟩
 have hfy : Wf.heap[W.heap.size]? = some (.cells #[.func (.yield l) #[] #[]] 147 (0, 0)) := by
  rw [← hWf]; exact qao hby (p := ⟨W.heap.size + 1, 0, none⟩) (by simp) _
 have hff2 : Wf.heap[W.heap.size + 1]? = some (.cells #[.func (.func 96) #[] #[.pointer (some ⟨rb, 0, none⟩), .pointer (some ⟨W.heap.size, 0, none⟩), .pointer (some ⟨W.heap.size + 1, 0, none⟩)]] 87 (0, 0)) := by
  rw [← hWf]; exact qaE hbf 0 _ rfl
 have hfr : Wf.heap[rb]? = some (.cells #[.int .i64 R] 3 (0, 0)) := by
  rw [← hWf]; exact qao hbr (p := ⟨W.heap.size + 1, 0, none⟩) (by simp; omega) _
 have hszf : Wf.heap.size = W.heap.size + 2 := by rw [← hWf]; simpa using hsz
 have hgf : W.grownBy Wf (some (W.heap.size + 1)) := by
  rw [← hWf, ← hWb]
  exact ⟨rfl, rfl, rfl, by simp; omega, fun k hk _ => by
   refine (Below.heap_setCell _ _ _ k (by simp; omega)).trans ((Below.heap_alloc _ _ _ (by simp; omega)).trans (Below.heap_alloc _ _ _ hk))⟩
 have hJf : J [] Wf := hJ0 W Wf _ h0 hgf (fun r e => by cases e; omega)
 have hcell := (qaf hff2 0).trans (show _ = some _ from rfl)
 have hcall := qkT (m := n - 1) (qsv n l R rb W.heap.size (W.heap.size + 1) B (qf5 (R - 1) 100 []) J hJ (fun pre v x W1 hj hp hr => qkW (hY pre v x W1 hj hp hr)) (R - 1) 100 [] (.slice none 0 0) [] Wf (by omega) (by omega) (by simp; omega) hR3 (by omega) (Kd.R_nil _ _ _ _ _)
  ⟨hfr, hfy, hff2, hB, by omega, by omega⟩ hJf (List.prefix_refl _))
 have H1 := qaa.mk hfy
 have H2 := qaa.mk hff2
 have H3 := qaa.mk hfr
 clear hfy hff2 hfr hbr hby hrW hJf hgf
 refine callsIn_of_wp Try.func95 rfl trivial ?_ rfl
 simp only [Try.ntmps95, List.size_toArray, List.length_cons, List.length_nil, Nat.reduceAdd, Nat.reduceSub, Array.replicate_succ, Array.replicate_zero, List.push_toArray, List.append_toArray, List.nil_append, List.cons_append]
 gi_wp2_with (refine ⟨trivial, fun e => by simp [Fence.wide] at e, hcall.mono ?_⟩; rintro e W' ⟨rfl, hJ', hk'⟩)
 go_end0
 exact ⟨⟨_, rfl⟩, hJ'⟩
end Go.Proofs.Ytmhomdohhihlcaa.P
namespace Go.Proofs.Ytmhomdohhihlcaa.P
open Go.RowKit Go.Proofs.YtmhomdohhihlcaaW.PrintWords Go.Proofs.YtmhomdohhihlcaaW.PrintLast Go.Proofs.YtmhomdohhihlcaaW.PrintMore
attribute [local go_sem] qbT qbR qb7 qb6 qbH qbG qbS qbU
def qdF.f (a0_0 : Int) (a0_1 : Int) (a1 : Int) : Option (Bool) := if 0 ≤ a0_0 then (if a0_0 ≤ a0_1 then (some (decide (a0_1 ≤ a1))) else (some false)) else (some false)
set_option maxHeartbeats 8000000 in
set_option maxRecDepth 100000 in
theorem qdF.calls (a0_0 : Int) (a0_1 : Int) (a1 : Int) (r : Bool) (w : World) (h : qdF.f a0_0 a0_1 a1 = some r) :
  Calls Try.prog 66 #[.agg #[.int .i64 a0_0, .int .i64 a0_1], .int .i64 a1] w fun e w' => e = .returned (.bool r) ∧ Below w.heap.size w w' := by
 have hu25 := Try.underlying25
 have HB := qaa.mk (Below.refl w.heap.size w)
 have H : (if 0 ≤ a0_0 then (if a0_0 ≤ a0_1 then (some (decide (a0_1 ≤ a1))) else (some false)) else (some false)) = some r := h
 clear h
 by_cases c3 : 0 ≤ a0_0
 ·
  rw [if_pos c3] at H
  have c3b0 : decide (0 ≤ a0_0) = true := decide_eq_true c3
  clear c3
  by_cases c4 : a0_0 ≤ a0_1
  ·
   rw [if_pos c4] at H
   have c4b0 : decide (a0_0 ≤ a0_1) = true := decide_eq_true c4
   clear c4
   obtain rfl := Option.some.inj H
   go_enter Try.func66, Try.ntmps66
   go_wp2_with (first | ((with_reducible refine qaN (N := 2) rfl ?_); refine qba ?hg (N := 2) ?hd (cs := #[.int .i64 a0_0, .int .i64 a0_1]) (t := 25) ?hr ?_; (case hd => rfl); (case hg => rfl); (case hr => first | (go_simp; done) | (go_simp; rfl)); intro qf7 hg w5 hbox hb; have n0_ := qaa.mk (qap (by repeat (first | (with_reducible first | exact HB.out | apply qac | apply qab | apply qag) | exact HB.out)) hb); have n1_ := qaa.mk (hbox); have n2_ := qaa.mk ((by rw [hg]; exact (qal (by repeat (first | (with_reducible first | exact HB.out | apply qac | apply qab | apply qag) | exact HB.out))) : w.heap.size ≤ qf7)); have n3_ := qaa.mk ((by rw [hg]; exact (qal (by repeat (first | (with_reducible first | exact HB.out | apply qac | apply qab | apply qag) | exact HB.out))) : w.heap.size ≤ qf7)); clear HB; have HB := n0_; have qf8 := n1_; have qrw := n2_; have qlD := n3_; clear n0_ n1_ n2_ n3_; clear hb hbox hg; have qiG : w5.cell? ⟨qf7, 0, none⟩ = some (.int .i64 a0_0) := (qaf qf8.out 0).trans rfl; have qiH : w5.cell? ⟨qf7, 1, none⟩ = some (.int .i64 a0_1) := (qaf qf8.out 1).trans rfl; have qiI := qaj qf8.out 0; have qiJ := qaj qf8.out 1))
   go_ret
   exact ⟨by first | rfl | (simp [qaC, qaB] <;> rfl) | (simp [*, qaC, qaB] <;> rfl), by repeat (first | (with_reducible first | exact HB.out | apply qac | apply qab | apply qag | refine qah ?_ qlD.out) | exact HB.out)⟩
  rw [if_neg c4] at H
  have c4b0 : decide (a0_0 ≤ a0_1) = false := decide_eq_false c4
  clear c4
  obtain rfl := Option.some.inj H
  go_enter Try.func66, Try.ntmps66
  go_wp2_with (first | ((with_reducible refine qaN (N := 2) rfl ?_); refine qba ?hg (N := 2) ?hd (cs := #[.int .i64 a0_0, .int .i64 a0_1]) (t := 25) ?hr ?_; (case hd => rfl); (case hg => rfl); (case hr => first | (go_simp; done) | (go_simp; rfl)); intro qf7 hg w7 hbox hb; have n0_ := qaa.mk (qap (by repeat (first | (with_reducible first | exact HB.out | apply qac | apply qab | apply qag) | exact HB.out)) hb); have n1_ := qaa.mk (hbox); have n2_ := qaa.mk ((by rw [hg]; exact (qal (by repeat (first | (with_reducible first | exact HB.out | apply qac | apply qab | apply qag) | exact HB.out))) : w.heap.size ≤ qf7)); have n3_ := qaa.mk ((by rw [hg]; exact (qal (by repeat (first | (with_reducible first | exact HB.out | apply qac | apply qab | apply qag) | exact HB.out))) : w.heap.size ≤ qf7)); clear HB; have HB := n0_; have qf8 := n1_; have qrw := n2_; have qlD := n3_; clear n0_ n1_ n2_ n3_; clear hb hbox hg; have qnW : w7.cell? ⟨qf7, 0, none⟩ = some (.int .i64 a0_0) := (qaf qf8.out 0).trans rfl; have qnX : w7.cell? ⟨qf7, 1, none⟩ = some (.int .i64 a0_1) := (qaf qf8.out 1).trans rfl; have qnY := qaj qf8.out 0; have qnZ := qaj qf8.out 1))
  go_ret
  exact ⟨by first | rfl | (simp [qaC, qaB] <;> rfl) | (simp [*, qaC, qaB] <;> rfl), by repeat (first | (with_reducible first | exact HB.out | apply qac | apply qab | apply qag | refine qah ?_ qlD.out) | exact HB.out)⟩
 rw [if_neg c3] at H
 have c3b0 : decide (0 ≤ a0_0) = false := decide_eq_false c3
 clear c3
 obtain rfl := Option.some.inj H
 go_enter Try.func66, Try.ntmps66
 go_wp2_with (first | ((with_reducible refine qaN (N := 2) rfl ?_); refine qba ?hg (N := 2) ?hd (cs := #[.int .i64 a0_0, .int .i64 a0_1]) (t := 25) ?hr ?_; (case hd => rfl); (case hg => rfl); (case hr => first | (go_simp; done) | (go_simp; rfl)); intro qf7 hg w9 hbox hb; have n0_ := qaa.mk (qap (by repeat (first | (with_reducible first | exact HB.out | apply qac | apply qab | apply qag) | exact HB.out)) hb); have n1_ := qaa.mk (hbox); have n2_ := qaa.mk ((by rw [hg]; exact (qal (by repeat (first | (with_reducible first | exact HB.out | apply qac | apply qab | apply qag) | exact HB.out))) : w.heap.size ≤ qf7)); have n3_ := qaa.mk ((by rw [hg]; exact (qal (by repeat (first | (with_reducible first | exact HB.out | apply qac | apply qab | apply qag) | exact HB.out))) : w.heap.size ≤ qf7)); clear HB; have HB := n0_; have qf8 := n1_; have qrw := n2_; have qlD := n3_; clear n0_ n1_ n2_ n3_; clear hb hbox hg; have qeV : w9.cell? ⟨qf7, 0, none⟩ = some (.int .i64 a0_0) := (qaf qf8.out 0).trans rfl; have qeW : w9.cell? ⟨qf7, 1, none⟩ = some (.int .i64 a0_1) := (qaf qf8.out 1).trans rfl; have qeX := qaj qf8.out 0; have qeY := qaj qf8.out 1))
 go_ret
 exact ⟨by first | rfl | (simp [qaC, qaB] <;> rfl) | (simp [*, qaC, qaB] <;> rfl), by repeat (first | (with_reducible first | exact HB.out | apply qac | apply qab | apply qag | refine qah ?_ qlD.out) | exact HB.out)⟩
end Go.Proofs.Ytmhomdohhihlcaa.P
namespace Go.Proofs.Ytmhomdohhihlcaa.P
open Go.RowKit Go.Proofs.YtmhomdohhihlcaaW.PrintWords Go.Proofs.YtmhomdohhihlcaaW.PrintLast Go.Proofs.YtmhomdohhihlcaaW.PrintMore
attribute [local go_sem] qbT qbR qb7 qb6 qbH qbG qbS qbU
mutual
def qaO.j0 : Nat → List (S25) → Bool → Option (Bool)
 | 0, _, _ => none
 | k + 1, x0, x5 => qaO.l0 k x5 x0 (x0.length : Int) 0
def qaO.l0 : Nat → Bool → List (S25) → Int → Int → Option (Bool)
 | 0, _, _, _, _ => none
 | k + 1, x5, x16, x17, x18 => if x18 < x17 then (if 0 ≤ x18 then (if x18 < (x16.length : Int) then (if x5 = true then ((qdF.f ((qbE x16 x18).f0) ((qbE x16 x18).f1) 100).bind fun t131 => (qaO.l0 k t131 x16 x17 (wrap64 (x18 + 1)))) else (qaO.l0 k false x16 x17 (wrap64 (x18 + 1)))) else (none)) else (none)) else (some x5)
end
def qaO.f (k : Nat) (l0 : List (S25)) (a1 : Int) : Option (Bool) := (qat.f a1 1 6).bind fun t128 => (if t128 = true then (qaO.j0 k l0 ((l0.length : Int) == a1)) else (qaO.j0 k l0 false))
theorem qaO.mono_l : ∀ k, (∀ y0 y1, LeO (qaO.j0 k y0 y1) (qaO.j0 (k + 1) y0 y1)) ∧ (∀ y0 y1 y2 y3, LeO (qaO.l0 k y0 y1 y2 y3) (qaO.l0 (k + 1) y0 y1 y2 y3))
 | 0 => ⟨fun _ _ r h => by simp [qaO.j0] at h, fun _ _ _ _ r h => by simp [qaO.l0] at h⟩
 | k + 1 => by
  obtain ⟨ih0, ih1⟩ := qaO.mono_l k
  refine ⟨?_, ?_⟩
  ·
   intro y0 y1
   unfold qaO.j0
   repeat' first
   | (with_reducible exact ih0 _ _)
   | (with_reducible exact ih1 _ _ _ _)
   | (with_reducible exact LeO.refl _)
   | (with_reducible exact LeO.none _)
   | (with_reducible refine LeO.ite ?_ ?_)
   | (with_reducible refine LeO.bind ?_ (fun _ => ?_))
   | exact ih0 _ _
   | exact ih1 _ _ _ _
   | exact LeO.none _
   | refine LeO.ite ?_ ?_
   | refine LeO.bind ?_ (fun _ => ?_)
  intro y0 y1 y2 y3
  unfold qaO.l0
  repeat' first
  | (with_reducible exact ih0 _ _)
  | (with_reducible exact ih1 _ _ _ _)
  | (with_reducible exact LeO.refl _)
  | (with_reducible exact LeO.none _)
  | (with_reducible refine LeO.ite ?_ ?_)
  | (with_reducible refine LeO.bind ?_ (fun _ => ?_))
  | exact ih0 _ _
  | exact ih1 _ _ _ _
  | exact LeO.none _
  | refine LeO.ite ?_ ?_
  | refine LeO.bind ?_ (fun _ => ?_)
theorem qaO.mono : ∀ a0 a1 k, LeO (qaO.f k a0 a1) (qaO.f (k + 1) a0 a1) := by
 intro a0 a1 k
 obtain ⟨ih0, ih1⟩ := qaO.mono_l k
 unfold qaO.f
 repeat' first
   | (with_reducible exact ih0 _ _)
   | (with_reducible exact ih1 _ _ _ _)
   | (with_reducible exact LeO.refl _)
   | (with_reducible exact LeO.none _)
   | (with_reducible refine LeO.ite ?_ ?_)
   | (with_reducible refine LeO.bind ?_ (fun _ => ?_))
   | exact ih0 _ _
   | exact ih1 _ _ _ _
   | exact LeO.none _
   | refine LeO.ite ?_ ?_
   | refine LeO.bind ?_ (fun _ => ?_)
set_option maxHeartbeats 8000000 in
set_option maxRecDepth 100000 in
theorem qaO.calls (k : Nat) (A0 : Option Addr) (c0 : Nat) (l0 : List (S25)) (a1 : Int) (r : Bool) (w : World) (hr0 : Kd.C k25 w A0 l0.length l0) (hc0 : l0.length ≤ c0) (h : qaO.f k l0 a1 = some r) :
  Calls Try.prog 67 #[.slice A0 l0.length c0, .int .i64 a1] w fun e w' => e = .returned (.bool r) ∧ Below w.heap.size w w' := by
 have hu25 := Try.underlying25
 have HR0 := qaa.mk hr0
 have HC0 := qaa.mk hc0
 clear hr0 hc0
 have HB := qaa.mk (Below.refl w.heap.size w)
 have H : ((qat.f a1 1 6).bind fun t128 => (if t128 = true then (qaO.j0 k l0 ((l0.length : Int) == a1)) else (qaO.j0 k l0 false))) = some r := h
 clear h
 have HC3 := qaa.mk H
 clear H
 go_enter Try.func67, Try.ntmps67
 go_upto_region 1 with (fail)
 go_cut [5] (fun v5 wc => ∃ (kq : Nat) (x5_2 : Bool), v5 = .bool x5_2 ∧ qaa (qaO.j0 kq l0 x5_2 = some r) ∧ qaa (kq ≤ k) ∧ qaa (Below w.heap.size w wc))
 case first =>
  have H := HC3.out
  clear HC3
  replace H := Option.bind_eq_some_iff.mp H
  obtain ⟨t128, A40, H⟩ := H
  replace H : (if t128 = true then (qaO.j0 k l0 ((l0.length : Int) == a1)) else (qaO.j0 k l0 false)) = some r := H
  have A4 := qaa.mk A40
  clear A40
  by_cases c5 : t128 = true
  ·
   subst c5
   have H1 : (qaO.j0 k l0 ((l0.length : Int) == a1)) = some r := by rw [if_pos rfl] at H; exact H
   clear H
   have H := H1
   clear H1
   have H' := qaa.mk H
   clear H
   go_wp2_with (first | ((with_reducible refine qaz (f := 65) rfl ?_); refine qbd (some 9) rfl rfl Try.func65 (by kernel_rfl) rfl #[.int .i64 a1, .int .i64 1, .int .i64 6] rfl (by (try simp only [List.map_toArray, List.map_cons, List.map_nil]); first | done | rfl | (simp only [List.length_drop, List.length_take]; rfl)) ?_; (with_reducible refine (qat.calls a1 1 6 true _ A4.out).mono ?_); rintro e w' ⟨rfl, ⟨nd, rfl⟩⟩; refine ⟨_, rfl, ?_⟩))
   go_meet
   case rel => exact ⟨_, (((l0.length : Int) == a1)), (by first | rfl | (simp; done) | (simp [*]; done)), H', ⟨by first | omega | exact Nat.le_refl _⟩, ⟨by repeat (first | (with_reducible first | exact HB.out | apply qac | apply qab | apply qag) | exact HB.out)⟩⟩
  replace c5 := Bool.eq_false_iff.mpr c5
  subst c5
  have H1 : (qaO.j0 k l0 false) = some r := by rw [if_neg (show ¬ (false = true) by decide)] at H; exact H
  clear H
  have H := H1
  clear H1
  have H' := qaa.mk H
  clear H
  go_wp2_with (first | ((with_reducible refine qaz (f := 65) rfl ?_); refine qbd (some 9) rfl rfl Try.func65 (by kernel_rfl) rfl #[.int .i64 a1, .int .i64 1, .int .i64 6] rfl (by (try simp only [List.map_toArray, List.map_cons, List.map_nil]); first | done | rfl | (simp only [List.length_drop, List.length_take]; rfl)) ?_; (with_reducible refine (qat.calls a1 1 6 false _ A4.out).mono ?_); rintro e w' ⟨rfl, ⟨nd, rfl⟩⟩; refine ⟨_, rfl, ?_⟩))
  go_meet
  case rel => exact ⟨_, (false), (by first | rfl | (simp; done) | (simp [*]; done)), H', ⟨by first | omega | exact Nat.le_refl _⟩, ⟨by repeat (first | (with_reducible first | exact HB.out | apply qac | apply qab | apply qag) | exact HB.out)⟩⟩
 case rest =>
  clear HC3
  try clear p2
  try clear c5
  obtain ⟨kq, x5_2, rfl, HA, HJ2, HB⟩ := hcut
  cases kq with
  | zero => exact absurd HA.out (by simp [qaO.j0])
  | succ kj2 =>
   have H := HA.out
   clear HA
   simp only [qaO.j0] at H
   have H' := qaa.mk H
   clear H
   go_wp2
   go_loopg [5, 18] kj2 (fun kq v5 v18 w' => ∃ (x5_2 : Bool) (qcS : Int), v5 = .bool x5_2 ∧ v18 = .int .i64 qcS ∧ qaa (qaO.l0 kq x5_2 l0 (l0.length : Int) qcS = some r) ∧ qaa (kq ≤ kj2) ∧ qaa (Below w.heap.size w w'))
   case atStart => exact ⟨(x5_2), (0), (by first | rfl | (simp; done) | (simp [*]; done)), (by first | rfl | (simp; done) | (simp [*]; done)), H', ⟨Nat.le_refl _⟩, ⟨by repeat (first | (with_reducible first | exact HB.out | apply qac | apply qab | apply qag) | exact HB.out)⟩⟩
   case round =>
    clear H'; (try clear p2); (try clear c5); (try clear p2); obtain ⟨x5_2, qcS, rfl, rfl, HA, HK2, HB⟩ := hrel
    cases gk with
    | zero => exact absurd HA.out (by simp [qaO.l0])
    | succ k2 =>
     have H := HA.out; clear HA; simp only [qaO.l0] at H
     by_cases c6 : qcS < (l0.length : Int)
     ·
      rw [if_pos c6] at H; have c6b0 : decide (qcS < (l0.length : Int)) = true := decide_eq_true c6; clear c6
      by_cases c7 : 0 ≤ qcS
      ·
       rw [if_pos c7] at H; have c7b0 : decide (0 ≤ qcS) = true := decide_eq_true c7; clear c7
       by_cases c8 : qcS < (l0.length : Int)
       ·
        rw [if_pos c8] at H; have c8b0 : decide (qcS < (l0.length : Int)) = true := decide_eq_true c8; clear c8
        by_cases c9 : x5_2 = true
        ·
         subst c9
         have H1 : ((qdF.f ((qbE l0 qcS).f0) ((qbE l0 qcS).f1) 100).bind fun t131 => (qaO.l0 k2 t131 l0 (l0.length : Int) (wrap64 (qcS + 1)))) = some r := by rw [if_pos rfl] at H; exact H
         clear H; have H := H1; clear H1; replace H := Option.bind_eq_some_iff.mp H; obtain ⟨t131, A100, H⟩ := H; replace H : (qaO.l0 k2 t131 l0 (l0.length : Int) (wrap64 (qcS + 1))) = some r := H; have A10 := qaa.mk A100; clear A100; have H' := qaa.mk H; clear H; have p129 : 0 ≤ (qcS : Int) := of_decide_eq_true (by first | (with_reducible assumption) | assumption); have q129 : qcS < (l0.length : Int) := of_decide_eq_true (by first | (with_reducible assumption) | assumption); obtain ⟨qvn, e129, qhB, qhC⟩ := qhg HR0.out qcS p129 q129; cases e129; replace qhB := (HB.out.cell (World.block_lt_of_cell? w _ qhB)).trans qhB; replace qhC := (HB.out.cell (World.block_lt_of_cell? w _ qhC)).trans qhC; replace p129 := eq_true p129; replace q129 := eq_true q129
         go_wp2_with (first | ((with_reducible refine qaN (N := 7) rfl ?_); (try (refine qdG (by rfl) ?_; dsimp only)); refine qba ?hg (N := 7) ?hd (cs := #[.int .i64 0, .int .i64 0]) (t := 25) ?hr ?_; (case hd => rfl); (case hg => rfl); (case hr => first | (go_simp; done) | (go_simp; rfl)); intro qhM hg w11 hbox hb; have n0_ := qaa.mk (qap (by repeat (first | (with_reducible first | exact HB.out | apply qac | apply qab | apply qag) | exact HB.out)) hb); have n1_ := qaa.mk (hbox); have n2_ := qaa.mk ((by rw [hg]; exact (qal (by repeat (first | (with_reducible first | exact HB.out | apply qac | apply qab | apply qag) | exact HB.out))) : w.heap.size ≤ qhM)); have n3_ := qaa.mk ((by rw [hg]; exact (qal (by repeat (first | (with_reducible first | exact HB.out | apply qac | apply qab | apply qag) | exact HB.out))) : w.heap.size ≤ qhM)); clear HB; have HB := n0_; have qgN := n1_; have qvo := n2_; have qnl := n3_; clear n0_ n1_ n2_ n3_; clear hb hbox hg; have qgt : w11.cell? ⟨qhM, 0, none⟩ = some (.int .i64 0) := (qaf qgN.out 0).trans rfl; have qgu : w11.cell? ⟨qhM, 1, none⟩ = some (.int .i64 0) := (qaf qgN.out 1).trans rfl; have qgv := qaj qgN.out 0; have qgw := qaj qgN.out 1) | (go_at_call 66; (with_reducible refine (qdF.calls ((qbE l0 qcS).f0) ((qbE l0 qcS).f1) 100 t131 _ A10.out).mono ?_); rintro e w13 ⟨rfl, hb⟩; have n0_ := qaa.mk (qam (g := qhM) (o := .cells #[.int .i64 ((qbE l0 qcS).f0), .int .i64 ((qbE l0 qcS).f1)] 25 (0, 0)) (by (with_reducible repeat (first | refine qae ?_ _ | refine qai ?_ | refine qad ?_ _)); refine qaE (cs := #[.int .i64 ((qbE l0 qcS).f0), .int .i64 0]) ?_ 1 _ rfl; (with_reducible repeat (first | refine qae ?_ _ | refine qai ?_ | refine qad ?_ _)); refine qaE (cs := #[.int .i64 0, .int .i64 0]) ?_ 0 _ rfl; (with_reducible repeat (first | refine qae ?_ _ | refine qai ?_ | refine qad ?_ _)); exact qgN.out) hb); have n1_ := qaa.mk (qap (by repeat (first | (with_reducible first | exact HB.out | apply qac | apply qab | apply qag | refine qah ?_ qnl.out) | exact HB.out)) hb); clear qgN; clear HB; have qgN := n0_; have HB := n1_; clear n0_ n1_; (try clear hb); (try clear hb2); (try clear hk); (try clear hi)))
         go_roundg k2
         case measure => have := HJ2.out; have := HK2.out; omega
         case rel => exact ⟨(t131), (wrap64 (qcS + 1)), (by first | rfl | (simp; done) | (simp [*]; done)), (by first | rfl | (simp; done) | (simp [*]; done)), H', ⟨by have := HJ2.out; have := HK2.out; omega⟩, ⟨by repeat (first | (with_reducible first | exact HB.out | apply qac | apply qab | apply qag | refine qah ?_ qnl.out) | exact HB.out)⟩⟩
        replace c9 := Bool.eq_false_iff.mpr c9; subst c9
        have H1 : (qaO.l0 k2 false l0 (l0.length : Int) (wrap64 (qcS + 1))) = some r := by rw [if_neg (show ¬ (false = true) by decide)] at H; exact H
        clear H; have H := H1; clear H1; have H' := qaa.mk H; clear H; have p129 : 0 ≤ (qcS : Int) := of_decide_eq_true (by first | (with_reducible assumption) | assumption); have q129 : qcS < (l0.length : Int) := of_decide_eq_true (by first | (with_reducible assumption) | assumption); obtain ⟨qvn, e129, qhB, qhC⟩ := qhg HR0.out qcS p129 q129; cases e129; replace qhB := (HB.out.cell (World.block_lt_of_cell? w _ qhB)).trans qhB; replace qhC := (HB.out.cell (World.block_lt_of_cell? w _ qhC)).trans qhC; replace p129 := eq_true p129; replace q129 := eq_true q129
        go_wp2_with (first | ((with_reducible refine qaN (N := 7) rfl ?_); (try (refine qdG (by rfl) ?_; dsimp only)); refine qba ?hg (N := 7) ?hd (cs := #[.int .i64 0, .int .i64 0]) (t := 25) ?hr ?_; (case hd => rfl); (case hg => rfl); (case hr => first | (go_simp; done) | (go_simp; rfl)); intro qhM hg w14 hbox hb; have n0_ := qaa.mk (qap (by repeat (first | (with_reducible first | exact HB.out | apply qac | apply qab | apply qag) | exact HB.out)) hb); have n1_ := qaa.mk (hbox); have n2_ := qaa.mk ((by rw [hg]; exact (qal (by repeat (first | (with_reducible first | exact HB.out | apply qac | apply qab | apply qag) | exact HB.out))) : w.heap.size ≤ qhM)); have n3_ := qaa.mk ((by rw [hg]; exact (qal (by repeat (first | (with_reducible first | exact HB.out | apply qac | apply qab | apply qag) | exact HB.out))) : w.heap.size ≤ qhM)); clear HB; have HB := n0_; have qgN := n1_; have qvo := n2_; have qnl := n3_; clear n0_ n1_ n2_ n3_; clear hb hbox hg; have qem : w14.cell? ⟨qhM, 0, none⟩ = some (.int .i64 0) := (qaf qgN.out 0).trans rfl; have qen : w14.cell? ⟨qhM, 1, none⟩ = some (.int .i64 0) := (qaf qgN.out 1).trans rfl; have qeo := qaj qgN.out 0; have qep := qaj qgN.out 1))
        go_roundg k2
        case measure => have := HJ2.out; have := HK2.out; omega
        case rel => exact ⟨(false), (wrap64 (qcS + 1)), (by first | rfl | (simp; done) | (simp [*]; done)), (by first | rfl | (simp; done) | (simp [*]; done)), H', ⟨by have := HJ2.out; have := HK2.out; omega⟩, ⟨by repeat (first | (with_reducible first | exact HB.out | apply qac | apply qab | apply qag | refine qah ?_ qnl.out) | exact HB.out)⟩⟩
       rw [if_neg c8] at H
       exact absurd H (by simp)
      rw [if_neg c7] at H
      exact absurd H (by simp)
     rw [if_neg c6] at H; have c6b0 : decide (qcS < (l0.length : Int)) = false := decide_eq_false c6; clear c6; obtain rfl := Option.some.inj H
     go_wp2
     go_ret
     exact ⟨by first | rfl | (simp [qaC, qaB] <;> rfl) | (simp [*, qaC, qaB] <;> rfl), by repeat (first | (with_reducible first | exact HB.out | apply qac | apply qab | apply qag) | exact HB.out)⟩
end Go.Proofs.Ytmhomdohhihlcaa.P
namespace Go.Proofs.Ytmhomdohhihlcaa.P
open Go.RowKit Go.Proofs.YtmhomdohhihlcaaW.PrintWords Go.Proofs.YtmhomdohhihlcaaW.PrintLast Go.Proofs.YtmhomdohhihlcaaW.PrintMore
def qe0.f (a b : Int) : Option Int := some a
def qew.f (a b : Int) : Option Int := some b
theorem qe0.calls (a b r : Int) (w : World) (h : qe0.f a b = some r) :
  Calls Try.prog 68 #[.agg #[.int .i64 a, .int .i64 b]] w fun e w' => e = .returned (.int .i64 r) ∧ Below w.heap.size w w' := by
 unfold qe0.f at h
 injection h with h
 subst h
 have hu25 := Try.underlying25
 go_enter Try.func68, Try.ntmps68
 go_wp2
 go_ret
 exact ⟨rfl, (Below.refl _ w).alloc (Nat.le_refl _) _⟩
theorem qew.calls (a b r : Int) (w : World) (h : qew.f a b = some r) :
  Calls Try.prog 69 #[.agg #[.int .i64 a, .int .i64 b]] w fun e w' => e = .returned (.int .i64 r) ∧ Below w.heap.size w w' := by
 unfold qew.f at h
 injection h with h
 subst h
 have hu25 := Try.underlying25
 go_enter Try.func69, Try.ntmps69
 go_wp2
 go_ret
 exact ⟨rfl, (Below.refl _ w).alloc (Nat.le_refl _) _⟩
end Go.Proofs.Ytmhomdohhihlcaa.P
namespace Go.Proofs.Ytmhomdohhihlcaa.P
open Go.RowKit Go.Proofs.YtmhomdohhihlcaaW.PrintWords Go.Proofs.YtmhomdohhihlcaaW.PrintLast Go.Proofs.YtmhomdohhihlcaaW.PrintMore
attribute [local go_sem] qbT qbR qb7 qb6 qbH qbG qbS qbU
def qa1.l0 : Nat → List (List (S25)) → Int → List Int → List Int → Int → Int → Option (Int)
 | 0, _, _, _, _, _, _ => none
 | k + 1, x2, x3, x9, x12, x13, x14 => if x14 < x13 then (if 0 ≤ x14 then (if x14 < (x12.length : Int) then (if x14 < (x2.length : Int) then (if 0 ≤ x3 then (if x3 < ((qde x2 x14).length : Int) then ((qe0.f ((qbE (qde x2 x14) x3).f0) ((qbE (qde x2 x14) x3).f1)).bind fun t137 => (if x9.length < 17592186044416 then (qa1.l0 k x2 x3 (x9 ++ [wrap64 ((rd x12 x14) * t137)]) x12 x13 (wrap64 (x14 + 1))) else (none))) else (none)) else (none)) else (none)) else (none)) else (none)) else ((qa8.f k x9).bind fun t141 => (some t141))
def qa1.f (k : Nat) (a0_0 : Int) (l1 : List Int) (l2 : List (List (S25))) (a3 : Int) : Option (Int) := qa1.l0 k l2 a3 ([] : List Int) l1 (l1.length : Int) 0
theorem qa1.mono_l : ∀ k, (∀ y0 y1 y2 y3 y4 y5, LeO (qa1.l0 k y0 y1 y2 y3 y4 y5) (qa1.l0 (k + 1) y0 y1 y2 y3 y4 y5))
 | 0 => fun _ _ _ _ _ _ r h => by simp [qa1.l0] at h
 | k + 1 => by
  have ih0 := qa1.mono_l k
  intro y0 y1 y2 y3 y4 y5
  unfold qa1.l0
  repeat' first
  | (with_reducible exact ih0 _ _ _ _ _ _)
  | (with_reducible exact qa8.mono _ _)
  | (with_reducible exact LeO.refl _)
  | (with_reducible exact LeO.none _)
  | (with_reducible refine LeO.ite ?_ ?_)
  | (with_reducible refine LeO.bind ?_ (fun _ => ?_))
  | exact ih0 _ _ _ _ _ _
  | exact qa8.mono _ _
  | exact LeO.none _
  | refine LeO.ite ?_ ?_
  | refine LeO.bind ?_ (fun _ => ?_)
theorem qa1.mono : ∀ a0 a1 a2 a3 k, LeO (qa1.f k a0 a1 a2 a3) (qa1.f (k + 1) a0 a1 a2 a3) := by
 intro a0 a1 a2 a3 k
 have ih0 := qa1.mono_l k
 unfold qa1.f
 repeat' first
   | (with_reducible exact ih0 _ _ _ _ _ _)
   | (with_reducible exact qa8.mono _ _)
   | (with_reducible exact LeO.refl _)
   | (with_reducible exact LeO.none _)
   | (with_reducible refine LeO.ite ?_ ?_)
   | (with_reducible refine LeO.bind ?_ (fun _ => ?_))
   | exact ih0 _ _ _ _ _ _
   | exact qa8.mono _ _
   | exact LeO.none _
   | refine LeO.ite ?_ ?_
   | refine LeO.bind ?_ (fun _ => ?_)
def qa1.T5 : Bool × List (List Nat × List Nat) := (true, [([], []), ([], []), ([], []), ([2], [2]), ([], []), ([], []), ([4, 5], [4, 5]), ([6], [6]), ([], []), ([7, 8], [7, 8]), ([9], [9]), ([3, 10], [3, 10]), ([1, 11], [1, 11]), ([12], [12]), ([0, 13, 11], [0, 13]), ([14, 14, 0, 1, 2, 3, 4, 5, 6, 7, 8, 9, 10, 11, 12, 13, 14], [0, 14])])
def qa1.B5 : List Nat := [0, 0, 0, 4, 0, 0, 48, 112, 0, 496, 1008, 2044, 4094, 8190, 16383, 32767]
theorem qa1.tab5 : rtab .any (qjS Try.f71 5) = qa1.T5 := by kernel_rfl
theorem qa1.bits5 : qfC qa1.T5.2 qa1.B5 = true := by kernel_rfl
set_option maxHeartbeats 8000000 in
set_option maxRecDepth 100000 in
theorem qa1.calls (k : Nat) (a0_0 : Int) (A1 : Option Addr) (c1 : Nat) (l1 : List Int) (A2 : Option Addr) (c2 : Nat) (l2 : List (List (S25))) (a3 : Int) (r : Int) (w : World) (hr1 : Kd.C (Kd.int .i64) w A1 l1.length l1) (hc1 : l1.length ≤ c1) (hr2 : Kd.C (Kd.slice 25 k25) w A2 l2.length l2) (hc2 : l2.length ≤ c2) (h : qa1.f k a0_0 l1 l2 a3 = some r) :
  Calls Try.prog 71 #[.agg #[.func (.func 68) #[] #[]], .slice A1 l1.length c1, .slice A2 l2.length c2, .int .i64 a3] w fun e w' => e = .returned (.int .i64 r) ∧ Below w.heap.size w w' := by
 have qvp := Try.underlying104
 have hu25 := Try.underlying25
 have HR1 := qaa.mk hr1
 have HC1 := qaa.mk hc1
 clear hr1 hc1
 have HR2 := qaa.mk hr2
 have HC2 := qaa.mk hc2
 clear hr2 hc2
 have HB := qaa.mk (Below.refl w.heap.size w)
 have H : (qa1.l0 k l2 a3 ([] : List Int) l1 (l1.length : Int) 0) = some r := h
 clear h
 have H' := qaa.mk H
 clear H
 go_enter Try.func71, Try.ntmps71
 go_wp2_with (first | ((with_reducible refine qaN (N := 4) rfl ?_); refine qba ?hg (N := 4) ?hd (cs := #[.func (.func 68) #[] #[]]) (t := 104) ?hr ?_; (case hd => rfl); (case hg => rfl); (case hr => first | (go_simp; done) | (go_simp; rfl)); intro qgE hg w5 hbox hb; have n0_ := qaa.mk (qap (by repeat (first | (with_reducible first | exact HB.out | apply qac | apply qab | apply qag) | exact HB.out)) hb); have n1_ := qaa.mk (hbox); have n2_ := qaa.mk ((by rw [hg]; exact (qal (by repeat (first | (with_reducible first | exact HB.out | apply qac | apply qab | apply qag) | exact HB.out))) : w.heap.size ≤ qgE)); have n3_ := qaa.mk ((by rw [hg]; exact (qal (by repeat (first | (with_reducible first | exact HB.out | apply qac | apply qab | apply qag) | exact HB.out))) : w.heap.size ≤ qgE)); clear HB; have HB := n0_; have qcX := n1_; have qvq := n2_; have qgF := n3_; clear n0_ n1_ n2_ n3_; clear hb hbox hg))
 go_loopg [9, 14] k (fun kq v9 v14 w' => ∃ (x9_1 : List Int) (qbF : Int), v14 = .int .i64 qbF ∧ qaa (qa1.l0 kq l2 a3 x9_1 l1 (l1.length : Int) qbF = some r) ∧ qaa (kq ≤ k) ∧ qaa (Kd.R (Kd.int .i64) 3 w' w.heap.size (fun _ => True) v9 x9_1) ∧ qaa (w'.heap[qgE]? = some (.cells #[.func (.func 68) #[] #[]] 104 (0, 0))) ∧ qaa (Below w.heap.size w w'))
 case atStart => exact ⟨(([] : List Int)), (0), (by first | rfl | (simp; done) | (simp [*]; done)), H', ⟨Nat.le_refl _⟩, ⟨by first | exact Kd.R_nil _ _ _ _ _ | exact Kd.N_nil _ _ _ _ _ | exact Kd.V_nil _ _ _ _ _ | exact Kd.Q_nil _ _ _ _ _ | exact Kd.S_nil _ _ _ _ _⟩, ⟨by (with_reducible repeat (first | refine qae ?_ _ | refine qai ?_ | refine qad ?_ _)); exact qcX.out⟩, ⟨by repeat (first | (with_reducible first | exact HB.out | apply qac | apply qab | apply qag | refine qah ?_ qgF.out) | exact HB.out)⟩⟩
 case round =>
  clear H'
  try clear c1
  try clear c2
  try clear p2
  obtain ⟨x9_1, qbF, rfl, HA, HK1, HO_9, qcX, HB⟩ := hrel
  cases gk with
  | zero => exact absurd HA.out (by simp [qa1.l0])
  | succ k1 =>
   have H := HA.out
   clear HA
   simp only [qa1.l0] at H
   by_cases c6 : qbF < (l1.length : Int)
   ·
    rw [if_pos c6] at H; have c6b0 : decide (qbF < (l1.length : Int)) = true := decide_eq_true c6; clear c6
    by_cases c7 : 0 ≤ qbF
    ·
     rw [if_pos c7] at H; have c7b0 : decide (0 ≤ qbF) = true := decide_eq_true c7; clear c7
     by_cases c8 : qbF < (l1.length : Int)
     ·
      rw [if_pos c8] at H; have c8b0 : decide (qbF < (l1.length : Int)) = true := decide_eq_true c8; clear c8
      by_cases c9 : qbF < (l2.length : Int)
      ·
       rw [if_pos c9] at H; have c9b0 : decide (qbF < (l2.length : Int)) = true := decide_eq_true c9; clear c9
       by_cases c10 : 0 ≤ a3
       ·
        rw [if_pos c10] at H; have c10b0 : decide (0 ≤ a3) = true := decide_eq_true c10; clear c10
        by_cases c11 : a3 < ((qde l2 qbF).length : Int)
        ·
         rw [if_pos c11] at H; have c11b0 : decide (a3 < ((qde l2 qbF).length : Int)) = true := decide_eq_true c11; clear c11; replace H := Option.bind_eq_some_iff.mp H; obtain ⟨t137, A120, H⟩ := H; replace H : (if x9_1.length < 17592186044416 then (qa1.l0 k1 l2 a3 (x9_1 ++ [wrap64 ((rd l1 qbF) * t137)]) l1 (l1.length : Int) (wrap64 (qbF + 1))) else (none)) = some r := H; have A12 := qaa.mk A120; clear A120
         by_cases c13 : x9_1.length < 17592186044416
         ·
          rw [if_pos c13] at H; have qpX := qaa.mk c13; clear c13; obtain ⟨y138, qhk⟩ : ∃ y_ : List Int, y_ = (x9_1 ++ [wrap64 ((rd l1 qbF) * t137)]) := ⟨_, rfl⟩
          replace H : (qa1.l0 k1 l2 a3 y138 l1 (l1.length : Int) (wrap64 (qbF + 1))) = some r := by first | (rw [qhk]; with_reducible exact H) | (have H2_ := (Option.bind_some _ _).symm.trans H; rw [qhk]; with_reducible exact H2_) | (have H2_ := (Option.bind_some _ _).symm.trans H; with_reducible exact H2_) | with_reducible exact H | (rw [qhk]; exact H) | exact H
          have qpY := qaa.mk qhk; clear qhk; have H' := qaa.mk H; clear H; have p134 : 0 ≤ (qbF : Int) := of_decide_eq_true (by first | (with_reducible assumption) | assumption); have q134 : qbF < (l1.length : Int) := of_decide_eq_true (by first | (with_reducible assumption) | assumption); obtain ⟨qvr, e134, qhD⟩ := Kd.at_int HR1.out qbF p134 q134; cases e134; replace qhD := (HB.out.cell (World.block_lt_of_cell? w _ qhD)).trans qhD; replace p134 := eq_true p134; replace q134 := eq_true q134
          try go_wp2
          have n0_ := qaa.mk (Kd.R_drew HO_9.out); have n1_ := qaa.mk (qai qcX.out); have n2_ := qaa.mk (qag HB.out); clear HO_9 qcX HB; have HO_9 := n0_; have qcX := n1_; have HB := n2_; clear n0_ n1_ n2_; have p135 : 0 ≤ (qbF : Int) := of_decide_eq_true (by first | (with_reducible assumption) | assumption); have q135 : qbF < (l2.length : Int) := of_decide_eq_true (by first | (with_reducible assumption) | assumption); obtain ⟨qpZ, quM, qn0, e135, qfF, qjq, qjr⟩ := qpE HR2.out qbF p135 q135; have qds := qfF; cases e135; replace qfF := (HB.out.cell (World.block_lt_of_cell? w _ qfF)).trans qfF; have qjs := qaa.mk qjr; have qtw := qaa.mk qjq; clear qjr qjq; replace p135 := eq_true p135; replace q135 := eq_true q135; have p136 : 0 ≤ (a3 : Int) := of_decide_eq_true (by first | (with_reducible assumption) | assumption); have q136 : a3 < ((qde l2 qbF).length : Int) := of_decide_eq_true (by first | (with_reducible assumption) | assumption); obtain ⟨qh7, e136, qfG, qfH⟩ := qhg qjs.out a3 p136 q136; have qdt := qfH; have qdu := qfG; cases e136; replace qfG := (HB.out.cell (World.block_lt_of_cell? w _ qfG)).trans qfG; replace qfH := (HB.out.cell (World.block_lt_of_cell? w _ qfH)).trans qfH; replace p136 := eq_true p136; replace q136 := eq_true q136; refine qhT (n := 16) (S := fun w' => w'.cell? ⟨qgE, 0, none⟩ = some (.func (.func 68) #[] #[]) ∧ w'.cell? (qpZ.add (qbF).toNat) = some (.slice (some qh7) (qde l2 qbF).length qn0) ∧ w'.cell? (qh7.add ((a3).toNat * 2)) = some (.int .i64 ((qbE (qde l2 qbF) a3).f0)) ∧ w'.cell? ⟨(qh7.add ((a3).toNat * 2)).block, (qh7.add ((a3).toNat * 2)).off + 1, none⟩ = some (.int .i64 ((qbE (qde l2 qbF) a3).f1))) (ds := []) #[false, false, false, false, false, false, false, false, false, false, false, false, false, false, false, false] (by kernel_rfl) rfl rfl ⟨(qaf qcX.out 0).trans rfl, ((HB.out.cell (World.block_lt_of_cell? w _ qds)).trans qds), ((HB.out.cell (World.block_lt_of_cell? w _ qdu)).trans qdu), ((HB.out.cell (World.block_lt_of_cell? w _ qdt)).trans qdt)⟩ (fun hHeld => ?_); refine qgf qa1.tab5 qa1.bits5 (fun HT_ HW_ => ?_)
          generalize wr.drew = w14 at HO_9 qcX HB qjs qfF qfG qfH hHeld ⊢
          refine qbI (i := 0) (N := some 19) (v := ?_) (a' := ?_) #[true, false, false, false, false, false, false, false, false, false, false, false, false, false, false, false] rfl rfl (qbr HT_.out (by kernel_rfl)) (fun _ _ _ h => h) (Or.inl ⟨by rfl, ?_⟩) ?_ ?_
          rotate_left
          ·
           intro w'
           go_simp
           with_reducible rfl
          rotate_left
          ·
           simp only [Act.put, List.setIfInBounds_toArray, List.set_cons_zero, List.set_cons_succ, qaQ, qaU]
           rfl
          refine qbI (i := 1) (N := some 20) (v := ?_) (a' := ?_) #[true, true, false, false, false, false, false, false, false, false, false, false, false, false, false, false] rfl rfl (qbr HT_.out (by kernel_rfl)) (fun _ _ _ h => h) (Or.inl ⟨by rfl, ?_⟩) ?_ ?_
          rotate_left
          ·
           intro w'
           go_simp
           with_reducible rfl
          rotate_left
          ·
           simp only [Act.put, List.setIfInBounds_toArray, List.set_cons_zero, List.set_cons_succ, qaQ, qaU]
           rfl
          refine qbI (i := 2) (N := some 21) (v := ?_) (a' := ?_) #[true, true, true, false, false, false, false, false, false, false, false, false, false, false, false, false] rfl rfl (qbr HT_.out (by kernel_rfl)) (fun _ _ _ h => h) (Or.inl ⟨by rfl, ?_⟩) ?_ ?_
          rotate_left
          ·
           intro w'
           go_simp
           with_reducible rfl
          rotate_left
          ·
           simp only [Act.put, List.setIfInBounds_toArray, List.set_cons_zero, List.set_cons_succ, qaQ, qaU]
           rfl
          refine qbI (i := 4) (N := some 23) (v := ?_) (a' := ?_) #[true, true, true, false, true, false, false, false, false, false, false, false, false, false, false, false] rfl rfl (qbr HT_.out (by kernel_rfl)) (fun _ _ _ h => h) (Or.inl ⟨by rfl, ?_⟩) ?_ ?_
          rotate_left
          ·
           intro w'
           go_simp
           with_reducible rfl
          rotate_left
          ·
           simp only [Act.put, List.setIfInBounds_toArray, List.set_cons_zero, List.set_cons_succ, qaQ, qaU]
           rfl
          refine qbI (i := 5) (N := some 24) (v := ?_) (a' := ?_) #[true, true, true, false, true, true, false, false, false, false, false, false, false, false, false, false] rfl rfl (qbr HT_.out (by kernel_rfl)) (fun _ _ _ h => h) (Or.inl ⟨by rfl, ?_⟩) ?_ ?_
          rotate_left
          ·
           intro w'
           go_simp
           with_reducible rfl
          rotate_left
          ·
           simp only [Act.put, List.setIfInBounds_toArray, List.set_cons_zero, List.set_cons_succ, qaQ, qaU]
           rfl
          refine qbI (i := 6) (N := some 25) (v := ?_) (a' := ?_) #[true, true, true, false, true, true, true, false, false, false, false, false, false, false, false, false] rfl rfl (qbr HT_.out (by kernel_rfl)) (fun _ _ _ h => h) (Or.inl ⟨by rfl, ?_⟩) ?_ ?_
          rotate_left
          ·
           intro w'
           go_simp
           with_reducible rfl
          rotate_left
          ·
           simp only [Act.put, List.setIfInBounds_toArray, List.set_cons_zero, List.set_cons_succ, qaQ, qaU]
           rfl
          refine qbI (i := 8) (N := some 27) (v := ?_) (a' := ?_) #[true, true, true, false, true, true, true, false, true, false, false, false, false, false, false, false] rfl rfl (qbr HT_.out (by kernel_rfl)) (fun _ _ _ h => h) (Or.inl ⟨by rfl, ?_⟩) ?_ ?_
          rotate_left
          ·
           intro w'
           go_simp
           with_reducible rfl
          rotate_left
          ·
           simp only [Act.put, List.setIfInBounds_toArray, List.set_cons_zero, List.set_cons_succ, qaQ, qaU]
           rfl
          refine take_ (i := 3) (N := some 22) (v := ?_) (a' := ?_) #[true, true, true, true, true, true, true, false, true, false, false, false, false, false, false, false] rfl rfl (qdd HT_.out HW_.out (by kernel_rfl)) (fun _ _ _ h => h) (Or.inl ⟨by rfl, ?_⟩) hHeld ?_ ?_
          rotate_left
          ·
           rintro w' ⟨s0, s1, s2, s3⟩
           go_simp
           with_reducible rfl
          rotate_left
          ·
           simp only [Act.put, List.setIfInBounds_toArray, List.set_cons_zero, List.set_cons_succ, qaQ, qaU]
           rfl
          refine take_ (i := 7) (N := some 26) (v := ?_) (a' := ?_) #[true, true, true, true, true, true, true, true, true, false, false, false, false, false, false, false] rfl rfl (qdd HT_.out HW_.out (by kernel_rfl)) (fun _ _ _ h => h) (Or.inl ⟨by rfl, ?_⟩) hHeld ?_ ?_
          rotate_left
          ·
           rintro w' ⟨s0, s1, s2, s3⟩
           go_simp
           with_reducible rfl
          rotate_left
          ·
           simp only [Act.put, List.setIfInBounds_toArray, List.set_cons_zero, List.set_cons_succ, qaQ, qaU]
           rfl
          refine qbI (i := 9) (N := some 28) (v := ?_) (a' := ?_) #[true, true, true, true, true, true, true, true, true, true, false, false, false, false, false, false] rfl rfl (qbr HT_.out (by kernel_rfl)) (fun _ _ _ h => h) (Or.inl ⟨by rfl, ?_⟩) ?_ ?_
          rotate_left
          ·
           intro w'
           go_simp
           with_reducible rfl
          rotate_left
          ·
           simp only [Act.put, List.setIfInBounds_toArray, List.set_cons_zero, List.set_cons_succ, qaQ, qaU]
           rfl
          refine take_ (i := 10) (N := some 29) (v := ?_) (a' := ?_) #[true, true, true, true, true, true, true, true, true, true, true, false, false, false, false, false] rfl rfl (qdd HT_.out HW_.out (by kernel_rfl)) (fun _ _ _ h => h) (Or.inl ⟨by rfl, ?_⟩) hHeld ?_ ?_
          rotate_left
          ·
           rintro w' ⟨s0, s1, s2, s3⟩
           go_simp
           with_reducible rfl
          rotate_left
          ·
           simp only [Act.put, List.setIfInBounds_toArray, List.set_cons_zero, List.set_cons_succ, qaQ, qaU]
           rfl
          refine one_ (i := 11) (N := some 30) #[true, true, true, true, true, true, true, true, true, true, true, true, false, false, false, false] rfl rfl (qe1 HT_.out (by kernel_rfl)) (by decide) (fun K hK => ?_); refine qk3 Try.func68 (by kernel_rfl) rfl #[.agg #[.int .i64 ((qbE (qde l2 qbF) a3).f0), .int .i64 ((qbE (qde l2 qbF) a3).f1)]] 22 (by rfl) rfl rfl rfl (by (try simp only [List.map_toArray, List.map_cons, List.map_nil]); first | done | rfl | (simp only [List.length_drop, List.length_take]; rfl)) ?_
          with_reducible refine (qe0.calls ((qbE (qde l2 qbF) a3).f0) ((qbE (qde l2 qbF) a3).f1) t137 _ A12.out).mono ?_
          rintro e w15 ⟨rfl, hb⟩; refine ⟨_, rfl, ?_⟩; have n0_ := qaa.mk (Kd.R_below (by (with_reducible repeat (first | apply Kd.R_alloc | apply Kd.R_drewN | apply Kd.R_drew)); exact HO_9.out) hb); have n1_ := qaa.mk (qam (g := qgE) (o := .cells #[.func (.func 68) #[] #[]] 104 (0, 0)) (by (with_reducible repeat (first | refine qae ?_ _ | refine qai ?_ | refine qad ?_ _)); exact qcX.out) hb); have n2_ := qaa.mk (qap (by repeat (first | (with_reducible first | exact HB.out | apply qac | apply qab | apply qag | refine qah ?_ qgF.out) | exact HB.out)) hb); clear HO_9 qcX HB; have HO_9 := n0_; have qcX := n1_; have HB := n2_; clear n0_ n1_ n2_
          (try clear hb)
          (try clear hb2)
          (try clear hk)
          (try clear hi)
          refine hK.out _ _ ⟨(qaf qcX.out 0).trans rfl, ((HB.out.cell (World.block_lt_of_cell? w _ qds)).trans qds), ((HB.out.cell (World.block_lt_of_cell? w _ qdu)).trans qdu), ((HB.out.cell (World.block_lt_of_cell? w _ qdt)).trans qdt)⟩ (fun hHeld => ?_); clear hK K; refine qdZ (a' := ?_) ?_ ?_
          rotate_left
          ·
           show Act.put _ (some 30) _ = _
           simp only [Act.put, List.setIfInBounds_toArray, List.set_cons_zero, List.set_cons_succ, qaQ, qaU]
           rfl
          refine qbI (i := 12) (N := some 31) (v := ?_) (a' := ?_) #[true, true, true, true, true, true, true, true, true, true, true, true, true, false, false, false] rfl rfl (qbr HT_.out (by kernel_rfl)) (fun _ _ _ h => h) (Or.inl ⟨by rfl, ?_⟩) ?_ ?_
          rotate_left
          ·
           intro w'
           go_simp
           with_reducible rfl
          rotate_left
          ·
           simp only [Act.put, List.setIfInBounds_toArray, List.set_cons_zero, List.set_cons_succ, qaQ, qaU]
           rfl
          refine one_ (i := 13) (N := some 32) #[true, true, true, true, true, true, true, true, true, true, true, true, true, true, false, false] rfl rfl (qe1 HT_.out (by kernel_rfl)) (by decide) (fun K hK => ?_); refine qnL (w1 := ?_) (v := ?_) (by rfl) rfl ?_ ?_
          rotate_left 2
          ·
           go_simp
           constructor
           ·
            rfl
           rfl
          refine hK.out _ _ ⟨(qaf (qad qcX.out _) 0).trans rfl, (World.cell?_alloc_lt _ _ _ (World.block_lt_of_cell? _ _ (((HB.out.cell (World.block_lt_of_cell? w _ qds)).trans qds)))).trans (((HB.out.cell (World.block_lt_of_cell? w _ qds)).trans qds)), (World.cell?_alloc_lt _ _ _ (World.block_lt_of_cell? _ _ (((HB.out.cell (World.block_lt_of_cell? w _ qdu)).trans qdu)))).trans (((HB.out.cell (World.block_lt_of_cell? w _ qdu)).trans qdu)), (World.cell?_alloc_lt _ _ _ (World.block_lt_of_cell? _ _ (((HB.out.cell (World.block_lt_of_cell? w _ qdt)).trans qdt)))).trans (((HB.out.cell (World.block_lt_of_cell? w _ qdt)).trans qdt))⟩ (fun hHeld => ?_); clear hK K; refine qdZ (a' := ?_) ?_ ?_
          rotate_left
          ·
           show Act.put _ (some 32) _ = _
           simp only [Act.put, List.setIfInBounds_toArray, List.set_cons_zero, List.set_cons_succ, qaQ, qaU]
           rfl
          refine one_ (i := 14) (N := some 33) #[true, true, true, true, true, true, true, true, true, true, true, true, true, true, true, false] rfl rfl (qe1 HT_.out (by kernel_rfl)) (by decide) (fun K hK => ?_); refine Kd.R_append_step (Kd.int .i64) (w0 := w) w.heap.size (by rfl) (.tmp 19) (.tmp 32) 37 3 (.int .i64 0) 8 rfl Try.underlying37 qhf rfl (by decide) (by omega) u9 x9_1 (wrap64 ((rd l1 qbF) * t137)) [.int .i64 (wrap64 ((rd l1 qbF) * t137))] (fun _ => True) (fun _ => False) rfl rfl ?aP (fun _ hk => hk.elim) ?aF ?aO ?aB ?aS ?aL ?_
          (case aP => exact rfl)
          (case aB => exact (by repeat (first | (with_reducible first | exact HB.out | apply qac | apply qab | apply qag | refine qah ?_ qgF.out) | exact HB.out)))
          (case aF => exact (fun _ _ => trivial))
          (case aO => exact (by (with_reducible repeat (first | apply Kd.R_alloc | apply Kd.R_drewN | apply Kd.R_drew)); exact HO_9.out))
          (case aS => exact (qal (by repeat (first | (with_reducible first | exact HB.out | apply qac | apply qab | apply qag | refine qah ?_ qgF.out) | exact HB.out))))
          (case aL => have := qpX.out; omega)
          intro v139 w16 ho hb hg hat; rw [← qpY.out] at ho; have n0_ := qaa.mk (qdw (g := qgE) (o := .cells #[.func (.func 68) #[] #[]] 104 (0, 0)) (by (with_reducible repeat (first | refine qae ?_ _ | refine qai ?_ | refine qad ?_ _)); exact qcX.out) hg (Kd.R_ne HO_9.out qcX.out (by decide))); have n1_ := qaa.mk (hb); have n2_ := qaa.mk (ho); clear qcX HB HO_9; have qcX := n0_; have HB := n1_; have qp0 := n2_; clear n0_ n1_ n2_ ho hb hg hat; refine hK.out _ _ ⟨(qaf qcX.out 0).trans rfl, ((HB.out.cell (World.block_lt_of_cell? w _ qds)).trans qds), ((HB.out.cell (World.block_lt_of_cell? w _ qdu)).trans qdu), ((HB.out.cell (World.block_lt_of_cell? w _ qdt)).trans qdt)⟩ (fun hHeld => ?_); clear hK K; refine qdZ (a' := ?_) ?_ ?_
          rotate_left
          ·
           show Act.put _ (some 33) _ = _
           simp only [Act.put, List.setIfInBounds_toArray, List.set_cons_zero, List.set_cons_succ, qaQ, qaU]
           rfl
          refine qbI (i := 15) (N := some 9) (v := ?_) (a' := ?_) #[true, true, true, true, true, true, true, true, true, true, true, true, true, true, true, true] rfl rfl (qbr HT_.out (by kernel_rfl)) (fun _ _ _ h => h) (Or.inl ⟨by rfl, ?_⟩) ?_ ?_
          rotate_left
          ·
           intro w'
           go_simp
           with_reducible rfl
          rotate_left
          ·
           simp only [Act.put, List.setIfInBounds_toArray, List.set_cons_zero, List.set_cons_succ, qaQ, qaU]
           rfl
          refine qiO (qho HT_.out (by kernel_rfl)) ?_
          try go_wp2
          go_roundg k1
          case measure => have := HK1.out; omega
          case rel => exact ⟨(y138), (wrap64 (qbF + 1)), (by first | rfl | (simp; done) | (simp [*]; done)), H', ⟨by have := HK1.out; omega⟩, ⟨by (with_reducible repeat (first | apply Kd.R_alloc | apply Kd.R_drewN | apply Kd.R_drew)); exact qp0.out⟩, ⟨by (with_reducible repeat (first | refine qae ?_ _ | refine qai ?_ | refine qad ?_ _)); exact qcX.out⟩, ⟨by repeat (first | (with_reducible first | exact HB.out | apply qac | apply qab | apply qag | refine qah ?_ qgF.out) | exact HB.out)⟩⟩
         rw [if_neg c13] at H
         exact absurd H (by simp)
        rw [if_neg c11] at H
        exact absurd H (by simp)
       rw [if_neg c10] at H
       exact absurd H (by simp)
      rw [if_neg c9] at H
      exact absurd H (by simp)
     rw [if_neg c8] at H
     exact absurd H (by simp)
    rw [if_neg c7] at H
    exact absurd H (by simp)
   rw [if_neg c6] at H
   have c6b0 : decide (qbF < (l1.length : Int)) = false := decide_eq_false c6
   clear c6
   replace H := Option.bind_eq_some_iff.mp H
   obtain ⟨t141, A170, H⟩ := H
   replace H : (some t141) = some r := H
   have A17 := qaa.mk A170
   clear A170
   obtain rfl := Option.some.inj H
   obtain ⟨Ao18, co18, eo18⟩ := Kd.R_slice HO_9.out
   subst eo18
   go_wp2_with (first | ((with_reducible refine qaz (f := 97) rfl ?_); refine qbd (some 36) rfl rfl Try.func97 (by kernel_rfl) rfl #[.slice Ao18 x9_1.length co18] rfl (by (try simp only [List.map_toArray, List.map_cons, List.map_nil]); first | done | rfl | (simp only [List.length_drop, List.length_take]; rfl)) ?_; (with_reducible refine (qa8.calls k1 _ _ x9_1 t141 _ ?side1 ?side2 A17.out).mono ?_); (case side1 => repeat (first | exact (Kd.R_reads' HO_9.out).2.2 | (with_reducible refine Kd.C_alloc ?_ _) | (with_reducible refine Kd.C_drewN ?_ _) | (with_reducible refine Kd.C_drew ?_))); (case side2 => exact (Kd.R_reads' HO_9.out).2.1); rintro e w' ⟨rfl, ⟨nd, rfl⟩⟩; refine ⟨_, rfl, ?_⟩))
   go_ret
   exact ⟨by first | rfl | (simp [qaC, qaB] <;> rfl) | (simp [*, qaC, qaB] <;> rfl), by repeat (first | (with_reducible first | exact HB.out | apply qac | apply qab | apply qag | refine qah ?_ qgF.out) | exact HB.out)⟩
end Go.Proofs.Ytmhomdohhihlcaa.P
namespace Go.Proofs.Ytmhomdohhihlcaa.P
open Go.RowKit Go.Proofs.YtmhomdohhihlcaaW.PrintWords Go.Proofs.YtmhomdohhihlcaaW.PrintLast Go.Proofs.YtmhomdohhihlcaaW.PrintMore
attribute [local go_sem] qbT qbR qb7 qb6 qbH qbG qbS qbU
def qaX.l0 : Nat → List (List (S25)) → Int → List Int → List Int → Int → Int → Option (Int)
 | 0, _, _, _, _, _, _ => none
 | k + 1, x2, x3, x9, x12, x13, x14 => if x14 < x13 then (if 0 ≤ x14 then (if x14 < (x12.length : Int) then (if x14 < (x2.length : Int) then (if 0 ≤ x3 then (if x3 < ((qde x2 x14).length : Int) then ((qew.f ((qbE (qde x2 x14) x3).f0) ((qbE (qde x2 x14) x3).f1)).bind fun t137 => (if x9.length < 17592186044416 then (qaX.l0 k x2 x3 (x9 ++ [wrap64 ((rd x12 x14) * t137)]) x12 x13 (wrap64 (x14 + 1))) else (none))) else (none)) else (none)) else (none)) else (none)) else (none)) else ((qa8.f k x9).bind fun t141 => (some t141))
def qaX.f (k : Nat) (a0_0 : Int) (l1 : List Int) (l2 : List (List (S25))) (a3 : Int) : Option (Int) := qaX.l0 k l2 a3 ([] : List Int) l1 (l1.length : Int) 0
theorem qaX.mono_l : ∀ k, (∀ y0 y1 y2 y3 y4 y5, LeO (qaX.l0 k y0 y1 y2 y3 y4 y5) (qaX.l0 (k + 1) y0 y1 y2 y3 y4 y5))
 | 0 => fun _ _ _ _ _ _ r h => by simp [qaX.l0] at h
 | k + 1 => by
  have ih0 := qaX.mono_l k
  intro y0 y1 y2 y3 y4 y5
  unfold qaX.l0
  repeat' first
  | (with_reducible exact ih0 _ _ _ _ _ _)
  | (with_reducible exact qa8.mono _ _)
  | (with_reducible exact LeO.refl _)
  | (with_reducible exact LeO.none _)
  | (with_reducible refine LeO.ite ?_ ?_)
  | (with_reducible refine LeO.bind ?_ (fun _ => ?_))
  | exact ih0 _ _ _ _ _ _
  | exact qa8.mono _ _
  | exact LeO.none _
  | refine LeO.ite ?_ ?_
  | refine LeO.bind ?_ (fun _ => ?_)
theorem qaX.mono : ∀ a0 a1 a2 a3 k, LeO (qaX.f k a0 a1 a2 a3) (qaX.f (k + 1) a0 a1 a2 a3) := by
 intro a0 a1 a2 a3 k
 have ih0 := qaX.mono_l k
 unfold qaX.f
 repeat' first
   | (with_reducible exact ih0 _ _ _ _ _ _)
   | (with_reducible exact qa8.mono _ _)
   | (with_reducible exact LeO.refl _)
   | (with_reducible exact LeO.none _)
   | (with_reducible refine LeO.ite ?_ ?_)
   | (with_reducible refine LeO.bind ?_ (fun _ => ?_))
   | exact ih0 _ _ _ _ _ _
   | exact qa8.mono _ _
   | exact LeO.none _
   | refine LeO.ite ?_ ?_
   | refine LeO.bind ?_ (fun _ => ?_)
def qaX.T5 : Bool × List (List Nat × List Nat) := (true, [([], []), ([], []), ([], []), ([2], [2]), ([], []), ([], []), ([4, 5], [4, 5]), ([6], [6]), ([], []), ([7, 8], [7, 8]), ([9], [9]), ([3, 10], [3, 10]), ([1, 11], [1, 11]), ([12], [12]), ([0, 13, 11], [0, 13]), ([14, 14, 0, 1, 2, 3, 4, 5, 6, 7, 8, 9, 10, 11, 12, 13, 14], [0, 14])])
def qaX.B5 : List Nat := [0, 0, 0, 4, 0, 0, 48, 112, 0, 496, 1008, 2044, 4094, 8190, 16383, 32767]
theorem qaX.tab5 : rtab .any (qjS Try.f71 5) = qaX.T5 := by kernel_rfl
theorem qaX.bits5 : qfC qaX.T5.2 qaX.B5 = true := by kernel_rfl
set_option maxHeartbeats 8000000 in
set_option maxRecDepth 100000 in
theorem qaX.calls (k : Nat) (a0_0 : Int) (A1 : Option Addr) (c1 : Nat) (l1 : List Int) (A2 : Option Addr) (c2 : Nat) (l2 : List (List (S25))) (a3 : Int) (r : Int) (w : World) (hr1 : Kd.C (Kd.int .i64) w A1 l1.length l1) (hc1 : l1.length ≤ c1) (hr2 : Kd.C (Kd.slice 25 k25) w A2 l2.length l2) (hc2 : l2.length ≤ c2) (h : qaX.f k a0_0 l1 l2 a3 = some r) :
  Calls Try.prog 71 #[.agg #[.func (.func 69) #[] #[]], .slice A1 l1.length c1, .slice A2 l2.length c2, .int .i64 a3] w fun e w' => e = .returned (.int .i64 r) ∧ Below w.heap.size w w' := by
 have qvp := Try.underlying104
 have hu25 := Try.underlying25
 have HR1 := qaa.mk hr1
 have HC1 := qaa.mk hc1
 clear hr1 hc1
 have HR2 := qaa.mk hr2
 have HC2 := qaa.mk hc2
 clear hr2 hc2
 have HB := qaa.mk (Below.refl w.heap.size w)
 have H : (qaX.l0 k l2 a3 ([] : List Int) l1 (l1.length : Int) 0) = some r := h
 clear h
 have H' := qaa.mk H
 clear H
 go_enter Try.func71, Try.ntmps71
 go_wp2_with (first | ((with_reducible refine qaN (N := 4) rfl ?_); refine qba ?hg (N := 4) ?hd (cs := #[.func (.func 69) #[] #[]]) (t := 104) ?hr ?_; (case hd => rfl); (case hg => rfl); (case hr => first | (go_simp; done) | (go_simp; rfl)); intro qgE hg w5 hbox hb; have n0_ := qaa.mk (qap (by repeat (first | (with_reducible first | exact HB.out | apply qac | apply qab | apply qag) | exact HB.out)) hb); have n1_ := qaa.mk (hbox); have n2_ := qaa.mk ((by rw [hg]; exact (qal (by repeat (first | (with_reducible first | exact HB.out | apply qac | apply qab | apply qag) | exact HB.out))) : w.heap.size ≤ qgE)); have n3_ := qaa.mk ((by rw [hg]; exact (qal (by repeat (first | (with_reducible first | exact HB.out | apply qac | apply qab | apply qag) | exact HB.out))) : w.heap.size ≤ qgE)); clear HB; have HB := n0_; have qcX := n1_; have qvq := n2_; have qgF := n3_; clear n0_ n1_ n2_ n3_; clear hb hbox hg))
 go_loopg [9, 14] k (fun kq v9 v14 w' => ∃ (x9_1 : List Int) (qbF : Int), v14 = .int .i64 qbF ∧ qaa (qaX.l0 kq l2 a3 x9_1 l1 (l1.length : Int) qbF = some r) ∧ qaa (kq ≤ k) ∧ qaa (Kd.R (Kd.int .i64) 3 w' w.heap.size (fun _ => True) v9 x9_1) ∧ qaa (w'.heap[qgE]? = some (.cells #[.func (.func 69) #[] #[]] 104 (0, 0))) ∧ qaa (Below w.heap.size w w'))
 case atStart => exact ⟨(([] : List Int)), (0), (by first | rfl | (simp; done) | (simp [*]; done)), H', ⟨Nat.le_refl _⟩, ⟨by first | exact Kd.R_nil _ _ _ _ _ | exact Kd.N_nil _ _ _ _ _ | exact Kd.V_nil _ _ _ _ _ | exact Kd.Q_nil _ _ _ _ _ | exact Kd.S_nil _ _ _ _ _⟩, ⟨by (with_reducible repeat (first | refine qae ?_ _ | refine qai ?_ | refine qad ?_ _)); exact qcX.out⟩, ⟨by repeat (first | (with_reducible first | exact HB.out | apply qac | apply qab | apply qag | refine qah ?_ qgF.out) | exact HB.out)⟩⟩
 case round =>
  clear H'
  try clear c1
  try clear c2
  try clear p2
  obtain ⟨x9_1, qbF, rfl, HA, HK1, HO_9, qcX, HB⟩ := hrel
  cases gk with
  | zero => exact absurd HA.out (by simp [qaX.l0])
  | succ k1 =>
   have H := HA.out
   clear HA
   simp only [qaX.l0] at H
   by_cases c6 : qbF < (l1.length : Int)
   ·
    rw [if_pos c6] at H; have c6b0 : decide (qbF < (l1.length : Int)) = true := decide_eq_true c6; clear c6
    by_cases c7 : 0 ≤ qbF
    ·
     rw [if_pos c7] at H; have c7b0 : decide (0 ≤ qbF) = true := decide_eq_true c7; clear c7
     by_cases c8 : qbF < (l1.length : Int)
     ·
      rw [if_pos c8] at H; have c8b0 : decide (qbF < (l1.length : Int)) = true := decide_eq_true c8; clear c8
      by_cases c9 : qbF < (l2.length : Int)
      ·
       rw [if_pos c9] at H; have c9b0 : decide (qbF < (l2.length : Int)) = true := decide_eq_true c9; clear c9
       by_cases c10 : 0 ≤ a3
       ·
        rw [if_pos c10] at H; have c10b0 : decide (0 ≤ a3) = true := decide_eq_true c10; clear c10
        by_cases c11 : a3 < ((qde l2 qbF).length : Int)
        ·
         rw [if_pos c11] at H; have c11b0 : decide (a3 < ((qde l2 qbF).length : Int)) = true := decide_eq_true c11; clear c11; replace H := Option.bind_eq_some_iff.mp H; obtain ⟨t137, A120, H⟩ := H; replace H : (if x9_1.length < 17592186044416 then (qaX.l0 k1 l2 a3 (x9_1 ++ [wrap64 ((rd l1 qbF) * t137)]) l1 (l1.length : Int) (wrap64 (qbF + 1))) else (none)) = some r := H; have A12 := qaa.mk A120; clear A120
         by_cases c13 : x9_1.length < 17592186044416
         ·
          rw [if_pos c13] at H; have qpX := qaa.mk c13; clear c13; obtain ⟨y138, qhk⟩ : ∃ y_ : List Int, y_ = (x9_1 ++ [wrap64 ((rd l1 qbF) * t137)]) := ⟨_, rfl⟩
          replace H : (qaX.l0 k1 l2 a3 y138 l1 (l1.length : Int) (wrap64 (qbF + 1))) = some r := by first | (rw [qhk]; with_reducible exact H) | (have H2_ := (Option.bind_some _ _).symm.trans H; rw [qhk]; with_reducible exact H2_) | (have H2_ := (Option.bind_some _ _).symm.trans H; with_reducible exact H2_) | with_reducible exact H | (rw [qhk]; exact H) | exact H
          have qpY := qaa.mk qhk; clear qhk; have H' := qaa.mk H; clear H; have p134 : 0 ≤ (qbF : Int) := of_decide_eq_true (by first | (with_reducible assumption) | assumption); have q134 : qbF < (l1.length : Int) := of_decide_eq_true (by first | (with_reducible assumption) | assumption); obtain ⟨qvr, e134, qhD⟩ := Kd.at_int HR1.out qbF p134 q134; cases e134; replace qhD := (HB.out.cell (World.block_lt_of_cell? w _ qhD)).trans qhD; replace p134 := eq_true p134; replace q134 := eq_true q134
          try go_wp2
          have n0_ := qaa.mk (Kd.R_drew HO_9.out); have n1_ := qaa.mk (qai qcX.out); have n2_ := qaa.mk (qag HB.out); clear HO_9 qcX HB; have HO_9 := n0_; have qcX := n1_; have HB := n2_; clear n0_ n1_ n2_; have p135 : 0 ≤ (qbF : Int) := of_decide_eq_true (by first | (with_reducible assumption) | assumption); have q135 : qbF < (l2.length : Int) := of_decide_eq_true (by first | (with_reducible assumption) | assumption); obtain ⟨qpZ, quM, qn0, e135, qfF, qjq, qjr⟩ := qpE HR2.out qbF p135 q135; have qds := qfF; cases e135; replace qfF := (HB.out.cell (World.block_lt_of_cell? w _ qfF)).trans qfF; have qjs := qaa.mk qjr; have qtw := qaa.mk qjq; clear qjr qjq; replace p135 := eq_true p135; replace q135 := eq_true q135; have p136 : 0 ≤ (a3 : Int) := of_decide_eq_true (by first | (with_reducible assumption) | assumption); have q136 : a3 < ((qde l2 qbF).length : Int) := of_decide_eq_true (by first | (with_reducible assumption) | assumption); obtain ⟨qh7, e136, qfG, qfH⟩ := qhg qjs.out a3 p136 q136; have qdt := qfH; have qdu := qfG; cases e136; replace qfG := (HB.out.cell (World.block_lt_of_cell? w _ qfG)).trans qfG; replace qfH := (HB.out.cell (World.block_lt_of_cell? w _ qfH)).trans qfH; replace p136 := eq_true p136; replace q136 := eq_true q136; refine qhT (n := 16) (S := fun w' => w'.cell? ⟨qgE, 0, none⟩ = some (.func (.func 69) #[] #[]) ∧ w'.cell? (qpZ.add (qbF).toNat) = some (.slice (some qh7) (qde l2 qbF).length qn0) ∧ w'.cell? (qh7.add ((a3).toNat * 2)) = some (.int .i64 ((qbE (qde l2 qbF) a3).f0)) ∧ w'.cell? ⟨(qh7.add ((a3).toNat * 2)).block, (qh7.add ((a3).toNat * 2)).off + 1, none⟩ = some (.int .i64 ((qbE (qde l2 qbF) a3).f1))) (ds := []) #[false, false, false, false, false, false, false, false, false, false, false, false, false, false, false, false] (by kernel_rfl) rfl rfl ⟨(qaf qcX.out 0).trans rfl, ((HB.out.cell (World.block_lt_of_cell? w _ qds)).trans qds), ((HB.out.cell (World.block_lt_of_cell? w _ qdu)).trans qdu), ((HB.out.cell (World.block_lt_of_cell? w _ qdt)).trans qdt)⟩ (fun hHeld => ?_); refine qgf qaX.tab5 qaX.bits5 (fun HT_ HW_ => ?_)
          generalize wr.drew = w14 at HO_9 qcX HB qjs qfF qfG qfH hHeld ⊢
          refine qbI (i := 0) (N := some 19) (v := ?_) (a' := ?_) #[true, false, false, false, false, false, false, false, false, false, false, false, false, false, false, false] rfl rfl (qbr HT_.out (by kernel_rfl)) (fun _ _ _ h => h) (Or.inl ⟨by rfl, ?_⟩) ?_ ?_
          rotate_left
          ·
           intro w'
           go_simp
           with_reducible rfl
          rotate_left
          ·
           simp only [Act.put, List.setIfInBounds_toArray, List.set_cons_zero, List.set_cons_succ, qaQ, qaU]
           rfl
          refine qbI (i := 1) (N := some 20) (v := ?_) (a' := ?_) #[true, true, false, false, false, false, false, false, false, false, false, false, false, false, false, false] rfl rfl (qbr HT_.out (by kernel_rfl)) (fun _ _ _ h => h) (Or.inl ⟨by rfl, ?_⟩) ?_ ?_
          rotate_left
          ·
           intro w'
           go_simp
           with_reducible rfl
          rotate_left
          ·
           simp only [Act.put, List.setIfInBounds_toArray, List.set_cons_zero, List.set_cons_succ, qaQ, qaU]
           rfl
          refine qbI (i := 2) (N := some 21) (v := ?_) (a' := ?_) #[true, true, true, false, false, false, false, false, false, false, false, false, false, false, false, false] rfl rfl (qbr HT_.out (by kernel_rfl)) (fun _ _ _ h => h) (Or.inl ⟨by rfl, ?_⟩) ?_ ?_
          rotate_left
          ·
           intro w'
           go_simp
           with_reducible rfl
          rotate_left
          ·
           simp only [Act.put, List.setIfInBounds_toArray, List.set_cons_zero, List.set_cons_succ, qaQ, qaU]
           rfl
          refine qbI (i := 4) (N := some 23) (v := ?_) (a' := ?_) #[true, true, true, false, true, false, false, false, false, false, false, false, false, false, false, false] rfl rfl (qbr HT_.out (by kernel_rfl)) (fun _ _ _ h => h) (Or.inl ⟨by rfl, ?_⟩) ?_ ?_
          rotate_left
          ·
           intro w'
           go_simp
           with_reducible rfl
          rotate_left
          ·
           simp only [Act.put, List.setIfInBounds_toArray, List.set_cons_zero, List.set_cons_succ, qaQ, qaU]
           rfl
          refine qbI (i := 5) (N := some 24) (v := ?_) (a' := ?_) #[true, true, true, false, true, true, false, false, false, false, false, false, false, false, false, false] rfl rfl (qbr HT_.out (by kernel_rfl)) (fun _ _ _ h => h) (Or.inl ⟨by rfl, ?_⟩) ?_ ?_
          rotate_left
          ·
           intro w'
           go_simp
           with_reducible rfl
          rotate_left
          ·
           simp only [Act.put, List.setIfInBounds_toArray, List.set_cons_zero, List.set_cons_succ, qaQ, qaU]
           rfl
          refine qbI (i := 6) (N := some 25) (v := ?_) (a' := ?_) #[true, true, true, false, true, true, true, false, false, false, false, false, false, false, false, false] rfl rfl (qbr HT_.out (by kernel_rfl)) (fun _ _ _ h => h) (Or.inl ⟨by rfl, ?_⟩) ?_ ?_
          rotate_left
          ·
           intro w'
           go_simp
           with_reducible rfl
          rotate_left
          ·
           simp only [Act.put, List.setIfInBounds_toArray, List.set_cons_zero, List.set_cons_succ, qaQ, qaU]
           rfl
          refine qbI (i := 8) (N := some 27) (v := ?_) (a' := ?_) #[true, true, true, false, true, true, true, false, true, false, false, false, false, false, false, false] rfl rfl (qbr HT_.out (by kernel_rfl)) (fun _ _ _ h => h) (Or.inl ⟨by rfl, ?_⟩) ?_ ?_
          rotate_left
          ·
           intro w'
           go_simp
           with_reducible rfl
          rotate_left
          ·
           simp only [Act.put, List.setIfInBounds_toArray, List.set_cons_zero, List.set_cons_succ, qaQ, qaU]
           rfl
          refine take_ (i := 3) (N := some 22) (v := ?_) (a' := ?_) #[true, true, true, true, true, true, true, false, true, false, false, false, false, false, false, false] rfl rfl (qdd HT_.out HW_.out (by kernel_rfl)) (fun _ _ _ h => h) (Or.inl ⟨by rfl, ?_⟩) hHeld ?_ ?_
          rotate_left
          ·
           rintro w' ⟨s0, s1, s2, s3⟩
           go_simp
           with_reducible rfl
          rotate_left
          ·
           simp only [Act.put, List.setIfInBounds_toArray, List.set_cons_zero, List.set_cons_succ, qaQ, qaU]
           rfl
          refine take_ (i := 7) (N := some 26) (v := ?_) (a' := ?_) #[true, true, true, true, true, true, true, true, true, false, false, false, false, false, false, false] rfl rfl (qdd HT_.out HW_.out (by kernel_rfl)) (fun _ _ _ h => h) (Or.inl ⟨by rfl, ?_⟩) hHeld ?_ ?_
          rotate_left
          ·
           rintro w' ⟨s0, s1, s2, s3⟩
           go_simp
           with_reducible rfl
          rotate_left
          ·
           simp only [Act.put, List.setIfInBounds_toArray, List.set_cons_zero, List.set_cons_succ, qaQ, qaU]
           rfl
          refine qbI (i := 9) (N := some 28) (v := ?_) (a' := ?_) #[true, true, true, true, true, true, true, true, true, true, false, false, false, false, false, false] rfl rfl (qbr HT_.out (by kernel_rfl)) (fun _ _ _ h => h) (Or.inl ⟨by rfl, ?_⟩) ?_ ?_
          rotate_left
          ·
           intro w'
           go_simp
           with_reducible rfl
          rotate_left
          ·
           simp only [Act.put, List.setIfInBounds_toArray, List.set_cons_zero, List.set_cons_succ, qaQ, qaU]
           rfl
          refine take_ (i := 10) (N := some 29) (v := ?_) (a' := ?_) #[true, true, true, true, true, true, true, true, true, true, true, false, false, false, false, false] rfl rfl (qdd HT_.out HW_.out (by kernel_rfl)) (fun _ _ _ h => h) (Or.inl ⟨by rfl, ?_⟩) hHeld ?_ ?_
          rotate_left
          ·
           rintro w' ⟨s0, s1, s2, s3⟩
           go_simp
           with_reducible rfl
          rotate_left
          ·
           simp only [Act.put, List.setIfInBounds_toArray, List.set_cons_zero, List.set_cons_succ, qaQ, qaU]
           rfl
          refine one_ (i := 11) (N := some 30) #[true, true, true, true, true, true, true, true, true, true, true, true, false, false, false, false] rfl rfl (qe1 HT_.out (by kernel_rfl)) (by decide) (fun K hK => ?_); refine qk3 Try.func69 (by kernel_rfl) rfl #[.agg #[.int .i64 ((qbE (qde l2 qbF) a3).f0), .int .i64 ((qbE (qde l2 qbF) a3).f1)]] 22 (by rfl) rfl rfl rfl (by (try simp only [List.map_toArray, List.map_cons, List.map_nil]); first | done | rfl | (simp only [List.length_drop, List.length_take]; rfl)) ?_
          with_reducible refine (qew.calls ((qbE (qde l2 qbF) a3).f0) ((qbE (qde l2 qbF) a3).f1) t137 _ A12.out).mono ?_
          rintro e w15 ⟨rfl, hb⟩; refine ⟨_, rfl, ?_⟩; have n0_ := qaa.mk (Kd.R_below (by (with_reducible repeat (first | apply Kd.R_alloc | apply Kd.R_drewN | apply Kd.R_drew)); exact HO_9.out) hb); have n1_ := qaa.mk (qam (g := qgE) (o := .cells #[.func (.func 69) #[] #[]] 104 (0, 0)) (by (with_reducible repeat (first | refine qae ?_ _ | refine qai ?_ | refine qad ?_ _)); exact qcX.out) hb); have n2_ := qaa.mk (qap (by repeat (first | (with_reducible first | exact HB.out | apply qac | apply qab | apply qag | refine qah ?_ qgF.out) | exact HB.out)) hb); clear HO_9 qcX HB; have HO_9 := n0_; have qcX := n1_; have HB := n2_; clear n0_ n1_ n2_
          (try clear hb)
          (try clear hb2)
          (try clear hk)
          (try clear hi)
          refine hK.out _ _ ⟨(qaf qcX.out 0).trans rfl, ((HB.out.cell (World.block_lt_of_cell? w _ qds)).trans qds), ((HB.out.cell (World.block_lt_of_cell? w _ qdu)).trans qdu), ((HB.out.cell (World.block_lt_of_cell? w _ qdt)).trans qdt)⟩ (fun hHeld => ?_); clear hK K; refine qdZ (a' := ?_) ?_ ?_
          rotate_left
          ·
           show Act.put _ (some 30) _ = _
           simp only [Act.put, List.setIfInBounds_toArray, List.set_cons_zero, List.set_cons_succ, qaQ, qaU]
           rfl
          refine qbI (i := 12) (N := some 31) (v := ?_) (a' := ?_) #[true, true, true, true, true, true, true, true, true, true, true, true, true, false, false, false] rfl rfl (qbr HT_.out (by kernel_rfl)) (fun _ _ _ h => h) (Or.inl ⟨by rfl, ?_⟩) ?_ ?_
          rotate_left
          ·
           intro w'
           go_simp
           with_reducible rfl
          rotate_left
          ·
           simp only [Act.put, List.setIfInBounds_toArray, List.set_cons_zero, List.set_cons_succ, qaQ, qaU]
           rfl
          refine one_ (i := 13) (N := some 32) #[true, true, true, true, true, true, true, true, true, true, true, true, true, true, false, false] rfl rfl (qe1 HT_.out (by kernel_rfl)) (by decide) (fun K hK => ?_); refine qnL (w1 := ?_) (v := ?_) (by rfl) rfl ?_ ?_
          rotate_left 2
          ·
           go_simp
           constructor
           ·
            rfl
           rfl
          refine hK.out _ _ ⟨(qaf (qad qcX.out _) 0).trans rfl, (World.cell?_alloc_lt _ _ _ (World.block_lt_of_cell? _ _ (((HB.out.cell (World.block_lt_of_cell? w _ qds)).trans qds)))).trans (((HB.out.cell (World.block_lt_of_cell? w _ qds)).trans qds)), (World.cell?_alloc_lt _ _ _ (World.block_lt_of_cell? _ _ (((HB.out.cell (World.block_lt_of_cell? w _ qdu)).trans qdu)))).trans (((HB.out.cell (World.block_lt_of_cell? w _ qdu)).trans qdu)), (World.cell?_alloc_lt _ _ _ (World.block_lt_of_cell? _ _ (((HB.out.cell (World.block_lt_of_cell? w _ qdt)).trans qdt)))).trans (((HB.out.cell (World.block_lt_of_cell? w _ qdt)).trans qdt))⟩ (fun hHeld => ?_); clear hK K; refine qdZ (a' := ?_) ?_ ?_
          rotate_left
          ·
           show Act.put _ (some 32) _ = _
           simp only [Act.put, List.setIfInBounds_toArray, List.set_cons_zero, List.set_cons_succ, qaQ, qaU]
           rfl
          refine one_ (i := 14) (N := some 33) #[true, true, true, true, true, true, true, true, true, true, true, true, true, true, true, false] rfl rfl (qe1 HT_.out (by kernel_rfl)) (by decide) (fun K hK => ?_); refine Kd.R_append_step (Kd.int .i64) (w0 := w) w.heap.size (by rfl) (.tmp 19) (.tmp 32) 37 3 (.int .i64 0) 8 rfl Try.underlying37 qhf rfl (by decide) (by omega) u9 x9_1 (wrap64 ((rd l1 qbF) * t137)) [.int .i64 (wrap64 ((rd l1 qbF) * t137))] (fun _ => True) (fun _ => False) rfl rfl ?aP (fun _ hk => hk.elim) ?aF ?aO ?aB ?aS ?aL ?_
          (case aP => exact rfl)
          (case aB => exact (by repeat (first | (with_reducible first | exact HB.out | apply qac | apply qab | apply qag | refine qah ?_ qgF.out) | exact HB.out)))
          (case aF => exact (fun _ _ => trivial))
          (case aO => exact (by (with_reducible repeat (first | apply Kd.R_alloc | apply Kd.R_drewN | apply Kd.R_drew)); exact HO_9.out))
          (case aS => exact (qal (by repeat (first | (with_reducible first | exact HB.out | apply qac | apply qab | apply qag | refine qah ?_ qgF.out) | exact HB.out))))
          (case aL => have := qpX.out; omega)
          intro v139 w16 ho hb hg hat; rw [← qpY.out] at ho; have n0_ := qaa.mk (qdw (g := qgE) (o := .cells #[.func (.func 69) #[] #[]] 104 (0, 0)) (by (with_reducible repeat (first | refine qae ?_ _ | refine qai ?_ | refine qad ?_ _)); exact qcX.out) hg (Kd.R_ne HO_9.out qcX.out (by decide))); have n1_ := qaa.mk (hb); have n2_ := qaa.mk (ho); clear qcX HB HO_9; have qcX := n0_; have HB := n1_; have qp0 := n2_; clear n0_ n1_ n2_ ho hb hg hat; refine hK.out _ _ ⟨(qaf qcX.out 0).trans rfl, ((HB.out.cell (World.block_lt_of_cell? w _ qds)).trans qds), ((HB.out.cell (World.block_lt_of_cell? w _ qdu)).trans qdu), ((HB.out.cell (World.block_lt_of_cell? w _ qdt)).trans qdt)⟩ (fun hHeld => ?_); clear hK K; refine qdZ (a' := ?_) ?_ ?_
          rotate_left
          ·
           show Act.put _ (some 33) _ = _
           simp only [Act.put, List.setIfInBounds_toArray, List.set_cons_zero, List.set_cons_succ, qaQ, qaU]
           rfl
          refine qbI (i := 15) (N := some 9) (v := ?_) (a' := ?_) #[true, true, true, true, true, true, true, true, true, true, true, true, true, true, true, true] rfl rfl (qbr HT_.out (by kernel_rfl)) (fun _ _ _ h => h) (Or.inl ⟨by rfl, ?_⟩) ?_ ?_
          rotate_left
          ·
           intro w'
           go_simp
           with_reducible rfl
          rotate_left
          ·
           simp only [Act.put, List.setIfInBounds_toArray, List.set_cons_zero, List.set_cons_succ, qaQ, qaU]
           rfl
          refine qiO (qho HT_.out (by kernel_rfl)) ?_
          try go_wp2
          go_roundg k1
          case measure => have := HK1.out; omega
          case rel => exact ⟨(y138), (wrap64 (qbF + 1)), (by first | rfl | (simp; done) | (simp [*]; done)), H', ⟨by have := HK1.out; omega⟩, ⟨by (with_reducible repeat (first | apply Kd.R_alloc | apply Kd.R_drewN | apply Kd.R_drew)); exact qp0.out⟩, ⟨by (with_reducible repeat (first | refine qae ?_ _ | refine qai ?_ | refine qad ?_ _)); exact qcX.out⟩, ⟨by repeat (first | (with_reducible first | exact HB.out | apply qac | apply qab | apply qag | refine qah ?_ qgF.out) | exact HB.out)⟩⟩
         rw [if_neg c13] at H
         exact absurd H (by simp)
        rw [if_neg c11] at H
        exact absurd H (by simp)
       rw [if_neg c10] at H
       exact absurd H (by simp)
      rw [if_neg c9] at H
      exact absurd H (by simp)
     rw [if_neg c8] at H
     exact absurd H (by simp)
    rw [if_neg c7] at H
    exact absurd H (by simp)
   rw [if_neg c6] at H
   have c6b0 : decide (qbF < (l1.length : Int)) = false := decide_eq_false c6
   clear c6
   replace H := Option.bind_eq_some_iff.mp H
   obtain ⟨t141, A170, H⟩ := H
   replace H : (some t141) = some r := H
   have A17 := qaa.mk A170
   clear A170
   obtain rfl := Option.some.inj H
   obtain ⟨Ao18, co18, eo18⟩ := Kd.R_slice HO_9.out
   subst eo18
   go_wp2_with (first | ((with_reducible refine qaz (f := 97) rfl ?_); refine qbd (some 36) rfl rfl Try.func97 (by kernel_rfl) rfl #[.slice Ao18 x9_1.length co18] rfl (by (try simp only [List.map_toArray, List.map_cons, List.map_nil]); first | done | rfl | (simp only [List.length_drop, List.length_take]; rfl)) ?_; (with_reducible refine (qa8.calls k1 _ _ x9_1 t141 _ ?side1 ?side2 A17.out).mono ?_); (case side1 => repeat (first | exact (Kd.R_reads' HO_9.out).2.2 | (with_reducible refine Kd.C_alloc ?_ _) | (with_reducible refine Kd.C_drewN ?_ _) | (with_reducible refine Kd.C_drew ?_))); (case side2 => exact (Kd.R_reads' HO_9.out).2.1); rintro e w' ⟨rfl, ⟨nd, rfl⟩⟩; refine ⟨_, rfl, ?_⟩))
   go_ret
   exact ⟨by first | rfl | (simp [qaC, qaB] <;> rfl) | (simp [*, qaC, qaB] <;> rfl), by repeat (first | (with_reducible first | exact HB.out | apply qac | apply qab | apply qag | refine qah ?_ qgF.out) | exact HB.out)⟩
end Go.Proofs.Ytmhomdohhihlcaa.P
