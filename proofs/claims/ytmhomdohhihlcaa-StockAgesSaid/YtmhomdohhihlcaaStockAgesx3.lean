/- What the statement StockAges leans on, part 4 of 6: contracts of the program's functions; conditions: none. -/
import Derived.Outline
import Derived.Test.YtmhomdohhihlcaaStockAgesx0
import Derived.Test.YtmhomdohhihlcaaStockAgesx1
import Derived.Test.YtmhomdohhihlcaaStockAgesx2
set_option linter.unusedVariables false
set_option linter.unusedSimpArgs false
set_option linter.constructorNameAsVariable false
namespace Go.Proofs.Ytmhomdohhihlcaa.P
open Go.RowKit Go.Proofs.YtmhomdohhihlcaaW.PrintWords Go.Proofs.YtmhomdohhihlcaaW.PrintLast Go.Proofs.YtmhomdohhihlcaaW.PrintMore
attribute [local go_sem] qb7 qb6 qcr qcq qbR qbS qb8 qb4
mutual
def qaP.j0 : Nat → List Int → List Int → Bool → List Int → List Int → List Int → Int → Int → Option (List Int × Int)
 | 0, _, _, _, _, _, _, _, _ => none
 | k + 1, x1, x2, x9, qeS, qeT, qeU, qeV, qeW => qaP.l0 k x1 x2 x9 0 qeS qeT qeU qeV qeW
def qaP.l0 : Nat → List Int → List Int → Bool → Int → List Int → List Int → List Int → Int → Int → Option (List Int × Int)
 | 0, _, _, _, _, _, _, _, _, _ => none
 | k + 1, x1, x2, x9, x10, qeS, qeT, qeU, qeV, qeW => if x9 = true then (qaP.j2 k x1 x2 x9 x10 (decide (x10 < (x1.length : Int))) qeS qeT qeU qeV qeW) else (qaP.j2 k x1 x2 x9 x10 false qeS qeT qeU qeV qeW)
def qaP.j2 : Nat → List Int → List Int → Bool → Int → Bool → List Int → List Int → List Int → Int → Int → Option (List Int × Int)
 | 0, _, _, _, _, _, _, _, _, _, _ => none
 | k + 1, x1, x2, x9, x10, x39, qeS, qeT, qeU, qeV, qeW => if x39 = true then (if 0 ≤ x10 then (if x10 < (x1.length : Int) then ((qas.f (rd x1 x10) 0 100000000).bind fun t159 => (if t159 = true then (if x10 < (x2.length : Int) then ((qas.f (rd x2 x10) 0 100000).bind fun t161 => (qaP.l0 k x1 x2 t161 (wrap64 (x10 + 1)) qeS qeT qeU qeV qeW)) else (none)) else (qaP.l0 k x1 x2 false (wrap64 (x10 + 1)) qeS qeT qeU qeV qeW))) else (none)) else (none)) else (if x9 = true then ((qcy.f qeS qeT qeU qeV qeW).bind fun qeu => (qaP.l1 k x1 x2 ([] : List Int) (x1.length : Int) 0 qeS qeT qeU qeV qeW qeu.1 qeu.2.1 qeu.2.2.1 qeu.2.2.2.1 qeu.2.2.2.2.1 qeu.2.2.2.2.2)) else (some (([] : List Int), 92)))
def qaP.l1 : Nat → List Int → List Int → List Int → Int → Int → List Int → List Int → List Int → Int → Int → Int → Int → Int → Int → Int → Int → Option (List Int × Int)
 | 0, _, _, _, _, _, _, _, _, _, _, _, _, _, _, _, _ => none
 | k + 1, x1, x2, x13, x59, x60, qeS, qeT, qeU, qeV, qeW, qsh, qsi, qsj, qsk, qsl, qsm => if x60 < x59 then (if 0 ≤ x60 then (if x60 < (x1.length : Int) then (if x60 < (x2.length : Int) then ((qcD.f qeS qeT qeU qeV qeW qsh qsi qsj qsk qsl qsm (rd x1 x60) (rd x2 x60)).bind fun qjE => (if x13.length < 17592186044416 then (qaP.l1 k x1 x2 (x13 ++ [qjE.1]) x59 (wrap64 (x60 + 1)) qeS qeT qeU qeV qeW qjE.2.1 qjE.2.2.1 qjE.2.2.2.1 qjE.2.2.2.2.1 qjE.2.2.2.2.2.1 qjE.2.2.2.2.2.2) else (none))) else (none)) else (none)) else (none)) else (if 0 ≤ (x13.length : Int) then (if (x13.length : Int) ≤ (x13.length : Int) then (some ((x13.take ((x13.length : Int) : Int).toNat), 0)) else (none)) else (none))
end
def qaP.f (k : Nat) (l0_0 : List Int) (l0_1 : List Int) (l0_2 : List Int) (a0_3 : Int) (a0_4 : Int) (l1 : List Int) (l2 : List Int) : Option (List Int × Int) := (qat.f k l0_0 l0_1 l0_2 a0_3 a0_4).bind fun t156 => (if t156 = true then ((qas.f (l1.length : Int) 1 10).bind fun t157 => (if t157 = true then (qaP.j0 k l1 l2 ((l2.length : Int) == (l1.length : Int)) l0_0 l0_1 l0_2 a0_3 a0_4) else (qaP.j0 k l1 l2 false l0_0 l0_1 l0_2 a0_3 a0_4))) else (qaP.j0 k l1 l2 false l0_0 l0_1 l0_2 a0_3 a0_4))
def qaP.T15 : Bool × List (List Nat × List Nat) := (true, [([], []), ([], []), ([], []), ([], []), ([], []), ([3, 4], [3, 4]), ([5], [5]), ([], []), ([], []), ([7, 8], [7, 8]), ([9], [9]), ([0, 1, 2, 6, 10], [0, 1, 2, 6, 10]), ([11], [11]), ([12], [12]), ([12], [12]), ([], []), ([13, 11, 0, 1, 2, 3, 4, 5, 6, 7, 8, 9, 10, 11, 12, 13, 15], [13]), ([15, 14, 16, 0, 1, 2, 3, 4, 5, 6, 7, 8, 9, 10, 11, 12, 13, 14, 15, 16], [14, 15])])
def qaP.B15 : List Nat := [0, 0, 0, 0, 0, 24, 56, 0, 0, 384, 896, 2047, 4095, 8191, 8191, 0, 49151, 131071]
theorem qaP.tab15 : rtab .any (qjY Try.f25 15) = qaP.T15 := by kernel_rfl
theorem qaP.bits15 : qfx qaP.T15.2 qaP.B15 = true := by kernel_rfl
set_option maxHeartbeats 8000000 in
set_option maxRecDepth 100000 in
theorem qaP.calls (k : Nat) (A0_0 : Option Addr) (c0_0 : Nat) (l0_0 : List Int) (A0_1 : Option Addr) (c0_1 : Nat) (l0_1 : List Int) (A0_2 : Option Addr) (c0_2 : Nat) (l0_2 : List Int) (a0_3 : Int) (a0_4 : Int) (A1 : Option Addr) (c1 : Nat) (l1 : List Int) (A2 : Option Addr) (c2 : Nat) (l2 : List Int) (r1 : List Int) (r2 : Int) (w : World) (qdZ : Kd.C (Kd.int .i64) w A0_0 l0_0.length l0_0) (qd8 : l0_0.length ≤ c0_0) (qd0 : Kd.C (Kd.int .i64) w A0_1 l0_1.length l0_1) (qd9 : l0_1.length ≤ c0_1) (qd1 : Kd.C (Kd.int .i64) w A0_2 l0_2.length l0_2) (qea : l0_2.length ≤ c0_2) (hr1 : Kd.C (Kd.int .i64) w A1 l1.length l1) (hc1 : l1.length ≤ c1) (hr2 : Kd.C (Kd.int .i64) w A2 l2.length l2) (hc2 : l2.length ≤ c2) (h : qaP.f k l0_0 l0_1 l0_2 a0_3 a0_4 l1 l2 = some (r1, r2)) :
  Calls Try.prog 25 #[.agg #[.slice A0_0 l0_0.length c0_0, .slice A0_1 l0_1.length c0_1, .slice A0_2 l0_2.length c0_2, .int .i64 a0_3, .int .i64 a0_4], .slice A1 l1.length c1, .slice A2 l2.length c2] w fun e w' => ∃ v0_ : Value, e = .returned (.tuple #[v0_, .int .i64 r2]) ∧ Kd.V (Kd.int .i64) 3 w' w.heap.size (fun k_ => (w.heap.size ≤ k_)) v0_ r1 ∧ Below w.heap.size w w' := by
 have hu39 := Try.underlying39
 have qpl := Try.underlying111
 have quz := Try.underlying115
 have qda := qaa.mk qdZ
 have qdt := qaa.mk qd8
 clear qdZ qd8
 have qde := qaa.mk qd0
 have qdu := qaa.mk qd9
 clear qd0 qd9
 have qdf := qaa.mk qd1
 have qdv := qaa.mk qea
 clear qd1 qea
 have HR1 := qaa.mk hr1
 have HC1 := qaa.mk hc1
 clear hr1 hc1
 have HR2 := qaa.mk hr2
 have HC2 := qaa.mk hc2
 clear hr2 hc2
 have HB := qaa.mk (Below.refl w.heap.size w)
 have H : ((qat.f k l0_0 l0_1 l0_2 a0_3 a0_4).bind fun t156 => (if t156 = true then ((qas.f (l1.length : Int) 1 10).bind fun t157 => (if t157 = true then (qaP.j0 k l1 l2 ((l2.length : Int) == (l1.length : Int)) l0_0 l0_1 l0_2 a0_3 a0_4) else (qaP.j0 k l1 l2 false l0_0 l0_1 l0_2 a0_3 a0_4))) else (qaP.j0 k l1 l2 false l0_0 l0_1 l0_2 a0_3 a0_4))) = some (r1, r2) := h
 clear h
 have HC4 := qaa.mk H
 clear H
 go_enter Try.func25, Try.ntmps25
 go_upto_region 2 with (first | ((with_reducible refine qaN (N := 3) rfl ?_); (try (refine qed (by rfl) ?_; dsimp only)); refine qa9 ?hg (N := 3) ?hd (cs := #[.slice A0_0 l0_0.length c0_0, .slice A0_1 l0_1.length c0_1, .slice A0_2 l0_2.length c0_2, .int .i64 a0_3, .int .i64 a0_4]) (t := 39) ?hr ?_; (case hd => rfl); (case hg => rfl); (case hr => first | (go_simp; done) | (go_simp; rfl)); intro qct hg w5 hbox hb; have n0_ := qaa.mk (qar (by repeat (first | (with_reducible first | exact HB.out | apply qaf | apply qad | apply qah) | exact HB.out)) hb); have n1_ := qaa.mk (hbox); have n2_ := qaa.mk ((by rw [hg]; exact (qam (by repeat (first | (with_reducible first | exact HB.out | apply qaf | apply qad | apply qah) | exact HB.out))) : w.heap.size ≤ qct)); have n3_ := qaa.mk ((by rw [hg]; exact (qam (by repeat (first | (with_reducible first | exact HB.out | apply qaf | apply qad | apply qah) | exact HB.out))) : w.heap.size ≤ qct)); clear HB; have HB := n0_; have qbl := n1_; have qDq := n2_; have qcu := n3_; clear n0_ n1_ n2_ n3_; clear hb hbox hg; have qiq : w5.cell? ⟨qct, 0, none⟩ = some (.slice A0_0 l0_0.length c0_0) := (qai qbl.out 0).trans rfl; have qir : w5.cell? ⟨qct, 1, none⟩ = some (.slice A0_1 l0_1.length c0_1) := (qai qbl.out 1).trans rfl; have qi5 : w5.cell? ⟨qct, 2, none⟩ = some (.slice A0_2 l0_2.length c0_2) := (qai qbl.out 2).trans rfl; have qle : w5.cell? ⟨qct, 3, none⟩ = some (.int .i64 a0_3) := (qai qbl.out 3).trans rfl; have qlf : w5.cell? ⟨qct, 4, none⟩ = some (.int .i64 a0_4) := (qai qbl.out 4).trans rfl; have qis := qaj qbl.out 0; have qit := qaj qbl.out 1; have qi6 := qaj qbl.out 2; have qlg := qaj qbl.out 3; have qlh := qaj qbl.out 4) | ((with_reducible refine qaN (N := 8) rfl ?_); (try (refine qed (by rfl) ?_; dsimp only)); refine qa9 ?hg (N := 8) ?hd (cs := #[.slice none 0 0, .slice none 0 0, .slice none 0 0, .int .i64 0, .int .i64 0]) (t := 111) ?hr ?_; (case hd => rfl); (case hg => rfl); (case hr => first | (go_simp; done) | (go_simp; rfl)); intro qbt hg w7 hbox hb; have n0_ := qaa.mk (qan (g := qct) (o := .cells #[.slice A0_0 l0_0.length c0_0, .slice A0_1 l0_1.length c0_1, .slice A0_2 l0_2.length c0_2, .int .i64 a0_3, .int .i64 a0_4] 39 (0, 0)) (by (with_reducible repeat (first | refine qac ?_ _ | refine qae ?_ | refine qab ?_ _)); exact qbl.out) hb); have n1_ := qaa.mk (qar (by repeat (first | (with_reducible first | exact HB.out | apply qaf | apply qad | apply qah | refine qag ?_ qcu.out) | exact HB.out)) hb); have n2_ := qaa.mk (hbox); have n3_ := qaa.mk ((by rw [hg]; exact (qam (by repeat (first | (with_reducible first | exact HB.out | apply qaf | apply qad | apply qah | refine qag ?_ qcu.out) | exact HB.out))) : w.heap.size ≤ qbt)); have n4_ := qaa.mk ((by rw [hg]; exact (qam (by repeat (first | (with_reducible first | exact HB.out | apply qaf | apply qad | apply qah | refine qag ?_ qcu.out) | exact HB.out))) : w.heap.size ≤ qbt)); have n5_ := qaa.mk ((by rw [hg]; exact Nat.ne_of_lt (qaA (g := qct) (o := .cells #[.slice A0_0 l0_0.length c0_0, .slice A0_1 l0_1.length c0_1, .slice A0_2 l0_2.length c0_2, .int .i64 a0_3, .int .i64 a0_4] 39 (0, 0)) (by (with_reducible repeat (first | refine qac ?_ _ | refine qae ?_ | refine qab ?_ _)); exact qbl.out)) : qct ≠ qbt)); have n6_ := qaa.mk ((by rw [hg]; exact Nat.ne_of_gt (qaA (g := qct) (o := .cells #[.slice A0_0 l0_0.length c0_0, .slice A0_1 l0_1.length c0_1, .slice A0_2 l0_2.length c0_2, .int .i64 a0_3, .int .i64 a0_4] 39 (0, 0)) (by (with_reducible repeat (first | refine qac ?_ _ | refine qae ?_ | refine qab ?_ _)); exact qbl.out)) : qbt ≠ qct)); clear qbl; clear HB; have qbl := n0_; have HB := n1_; have qaL := n2_; have qDr := n3_; have qcB := n4_; have qcP := n5_; have qhL := n6_; clear n0_ n1_ n2_ n3_ n4_ n5_ n6_; clear hb hbox hg; have hnb8 := qhL.out; have hnc8 := qcP.out; have qeA : w7.cell? ⟨qbt, 0, none⟩ = some (.slice none 0 0) := (qai qaL.out 0).trans rfl; have qeB : w7.cell? ⟨qbt, 1, none⟩ = some (.slice none 0 0) := (qai qaL.out 1).trans rfl; have qeN : w7.cell? ⟨qbt, 2, none⟩ = some (.slice none 0 0) := (qai qaL.out 2).trans rfl; have qli : w7.cell? ⟨qbt, 3, none⟩ = some (.int .i64 0) := (qai qaL.out 3).trans rfl; have qlj : w7.cell? ⟨qbt, 4, none⟩ = some (.int .i64 0) := (qai qaL.out 4).trans rfl; have qeC := qaj qaL.out 0; have qeD := qaj qaL.out 1; have qeO := qaj qaL.out 2; have qlk := qaj qaL.out 3; have qll := qaj qaL.out 4))
 (try simp only [Act.put, List.setIfInBounds_toArray, List.set_cons_zero, List.set_cons_succ])
 go_cut [9] (fun v9 wc => ∃ (kq : Nat) (x9_3 : Bool), v9 = .bool x9_3 ∧ qaa (qaP.j0 kq l1 l2 x9_3 l0_0 l0_1 l0_2 a0_3 a0_4 = some (r1, r2)) ∧ qaa (kq ≤ k) ∧ qaa (wc.heap[qct]? = some (.cells #[(.slice A0_0 l0_0.length c0_0), (.slice A0_1 l0_1.length c0_1), (.slice A0_2 l0_2.length c0_2), .int .i64 a0_3, .int .i64 a0_4] 39 (0, 0))) ∧ qaa (wc.heap[qbt]? = some (.cells #[(.slice A0_0 l0_0.length c0_0), (.slice A0_1 l0_1.length c0_1), (.slice A0_2 l0_2.length c0_2), .int .i64 a0_3, .int .i64 a0_4] 111 (0, 0))) ∧ qaa (Below w.heap.size w wc))
 case first =>
  have H := HC4.out
  clear HC4
  replace H := Option.bind_eq_some_iff.mp H
  obtain ⟨t156, A100, H⟩ := H
  replace H : (if t156 = true then ((qas.f (l1.length : Int) 1 10).bind fun t157 => (if t157 = true then (qaP.j0 k l1 l2 ((l2.length : Int) == (l1.length : Int)) l0_0 l0_1 l0_2 a0_3 a0_4) else (qaP.j0 k l1 l2 false l0_0 l0_1 l0_2 a0_3 a0_4))) else (qaP.j0 k l1 l2 false l0_0 l0_1 l0_2 a0_3 a0_4)) = some (r1, r2) := H
  have A10 := qaa.mk A100
  clear A100
  by_cases c11 : t156 = true
  ·
   subst c11
   have H1 : ((qas.f (l1.length : Int) 1 10).bind fun t157 => (if t157 = true then (qaP.j0 k l1 l2 ((l2.length : Int) == (l1.length : Int)) l0_0 l0_1 l0_2 a0_3 a0_4) else (qaP.j0 k l1 l2 false l0_0 l0_1 l0_2 a0_3 a0_4))) = some (r1, r2) := by rw [if_pos rfl] at H; exact H
   clear H
   have H := H1
   clear H1
   replace H := Option.bind_eq_some_iff.mp H
   obtain ⟨t157, A120, H⟩ := H
   replace H : (if t157 = true then (qaP.j0 k l1 l2 ((l2.length : Int) == (l1.length : Int)) l0_0 l0_1 l0_2 a0_3 a0_4) else (qaP.j0 k l1 l2 false l0_0 l0_1 l0_2 a0_3 a0_4)) = some (r1, r2) := H
   have A12 := qaa.mk A120
   clear A120
   by_cases c13 : t157 = true
   ·
    subst c13
    have H1 : (qaP.j0 k l1 l2 ((l2.length : Int) == (l1.length : Int)) l0_0 l0_1 l0_2 a0_3 a0_4) = some (r1, r2) := by rw [if_pos rfl] at H; exact H
    clear H; have H := H1; clear H1; have H' := qaa.mk H; clear H; have qDs := qhL.out; have qDt := qcP.out; have qgo : w7.cell? ⟨qbt, 0, none⟩ = some (.slice none 0 0) := (qai qaL.out 0).trans rfl; have qgp : w7.cell? ⟨qbt, 1, none⟩ = some (.slice none 0 0) := (qai qaL.out 1).trans rfl; have qg0 : w7.cell? ⟨qbt, 2, none⟩ = some (.slice none 0 0) := (qai qaL.out 2).trans rfl; have qg1 : w7.cell? ⟨qbt, 3, none⟩ = some (.int .i64 0) := (qai qaL.out 3).trans rfl; have qg2 : w7.cell? ⟨qbt, 4, none⟩ = some (.int .i64 0) := (qai qaL.out 4).trans rfl; have qgq := qaj qaL.out 0; have qgr := qaj qaL.out 1; have qg3 := qaj qaL.out 2; have qg4 := qaj qaL.out 3; have qg5 := qaj qaL.out 4
    go_wp2_with (first | ((with_reducible refine qaK (f := 76) rfl ?_); refine qbm (some 20) rfl rfl Try.func76 (by kernel_rfl) rfl #[.agg #[.slice A0_0 l0_0.length c0_0, .slice A0_1 l0_1.length c0_1, .slice A0_2 l0_2.length c0_2, .int .i64 a0_3, .int .i64 a0_4]] rfl (by (try simp only [List.map_toArray, List.map_cons, List.map_nil]); first | done | rfl | (simp only [List.length_drop, List.length_take]; rfl)) ?_; (with_reducible refine (qat.calls k _ _ l0_0 _ _ l0_1 _ _ l0_2 a0_3 a0_4 true _ ?side1 ?side2 ?side3 ?side4 ?side5 ?side6 A10.out).mono ?_); (case side1 => exact Kd.C_below qda.out (by repeat (first | (with_reducible first | exact HB.out | apply qaf | apply qad | apply qah | refine qag ?_ qcu.out | refine qag ?_ qcB.out) | exact HB.out))); (case side2 => exact qdt.out); (case side3 => exact Kd.C_below qde.out (by repeat (first | (with_reducible first | exact HB.out | apply qaf | apply qad | apply qah | refine qag ?_ qcu.out | refine qag ?_ qcB.out) | exact HB.out))); (case side4 => exact qdu.out); (case side5 => exact Kd.C_below qdf.out (by repeat (first | (with_reducible first | exact HB.out | apply qaf | apply qad | apply qah | refine qag ?_ qcu.out | refine qag ?_ qcB.out) | exact HB.out))); (case side6 => exact qdv.out); rintro e w16 ⟨rfl, hb⟩; refine ⟨_, rfl, ?_⟩; have n0_ := qaa.mk (qan (g := qct) (o := .cells #[.slice A0_0 l0_0.length c0_0, .slice A0_1 l0_1.length c0_1, .slice A0_2 l0_2.length c0_2, .int .i64 a0_3, .int .i64 a0_4] 39 (0, 0)) (by (with_reducible repeat (first | refine qac ?_ _ | refine qae ?_ | refine qab ?_ _)); refine qao ?_ qcP.out _; (with_reducible repeat (first | refine qac ?_ _ | refine qae ?_ | refine qab ?_ _)); refine qao ?_ qcP.out _; (with_reducible repeat (first | refine qac ?_ _ | refine qae ?_ | refine qab ?_ _)); refine qao ?_ qcP.out _; (with_reducible repeat (first | refine qac ?_ _ | refine qae ?_ | refine qab ?_ _)); refine qao ?_ qcP.out _; (with_reducible repeat (first | refine qac ?_ _ | refine qae ?_ | refine qab ?_ _)); refine qao ?_ qcP.out _; (with_reducible repeat (first | refine qac ?_ _ | refine qae ?_ | refine qab ?_ _)); exact qbl.out) hb); have n1_ := qaa.mk (qan (g := qbt) (o := .cells #[.slice A0_0 l0_0.length c0_0, .slice A0_1 l0_1.length c0_1, .slice A0_2 l0_2.length c0_2, .int .i64 a0_3, .int .i64 a0_4] 111 (0, 0)) (by (with_reducible repeat (first | refine qac ?_ _ | refine qae ?_ | refine qab ?_ _)); refine qaw (cs := #[.slice A0_0 l0_0.length c0_0, .slice A0_1 l0_1.length c0_1, .slice A0_2 l0_2.length c0_2, .int .i64 a0_3, .int .i64 0]) ?_ 4 _ rfl; (with_reducible repeat (first | refine qac ?_ _ | refine qae ?_ | refine qab ?_ _)); refine qaw (cs := #[.slice A0_0 l0_0.length c0_0, .slice A0_1 l0_1.length c0_1, .slice A0_2 l0_2.length c0_2, .int .i64 0, .int .i64 0]) ?_ 3 _ rfl; (with_reducible repeat (first | refine qac ?_ _ | refine qae ?_ | refine qab ?_ _)); refine qaw (cs := #[.slice A0_0 l0_0.length c0_0, .slice A0_1 l0_1.length c0_1, .slice none 0 0, .int .i64 0, .int .i64 0]) ?_ 2 _ rfl; (with_reducible repeat (first | refine qac ?_ _ | refine qae ?_ | refine qab ?_ _)); refine qaw (cs := #[.slice A0_0 l0_0.length c0_0, .slice none 0 0, .slice none 0 0, .int .i64 0, .int .i64 0]) ?_ 1 _ rfl; (with_reducible repeat (first | refine qac ?_ _ | refine qae ?_ | refine qab ?_ _)); refine qaw (cs := #[.slice none 0 0, .slice none 0 0, .slice none 0 0, .int .i64 0, .int .i64 0]) ?_ 0 _ rfl; (with_reducible repeat (first | refine qac ?_ _ | refine qae ?_ | refine qab ?_ _)); exact qaL.out) hb); have n2_ := qaa.mk (qar (by repeat (first | (with_reducible first | exact HB.out | apply qaf | apply qad | apply qah | refine qag ?_ qcu.out | refine qag ?_ qcB.out) | exact HB.out)) hb); clear qbl; clear qaL; clear HB; have qbl := n0_; have qaL := n1_; have HB := n2_; clear n0_ n1_ n2_; (try clear hb); (try clear hb2); (try clear hk); (try clear hi)) | (go_at_call 65; (with_reducible refine (qas.calls (l1.length : Int) 1 10 true _ A12.out).mono ?_); rintro e w' ⟨rfl, ⟨nd, rfl⟩⟩))
    go_meet
    case rel => exact ⟨_, (((l2.length : Int) == (l1.length : Int))), (by first | rfl | (simp; done) | (simp [*]; done)), H', ⟨by first | omega | exact Nat.le_refl _⟩, ⟨by (with_reducible repeat (first | refine qac ?_ _ | refine qae ?_ | refine qab ?_ _)); exact qbl.out⟩, ⟨by (with_reducible repeat (first | refine qac ?_ _ | refine qae ?_ | refine qab ?_ _)); exact qaL.out⟩, ⟨by repeat (first | (with_reducible first | exact HB.out | apply qaf | apply qad | apply qah | refine qag ?_ qcu.out | refine qag ?_ qcB.out) | exact HB.out)⟩⟩
   replace c13 := Bool.eq_false_iff.mpr c13
   subst c13
   have H1 : (qaP.j0 k l1 l2 false l0_0 l0_1 l0_2 a0_3 a0_4) = some (r1, r2) := by rw [if_neg (show ¬ (false = true) by decide)] at H; exact H
   clear H
   have H := H1
   clear H1
   have H' := qaa.mk H
   clear H
   have qqu := qhL.out
   have qqv := qcP.out
   have qgM : w7.cell? ⟨qbt, 0, none⟩ = some (.slice none 0 0) := (qai qaL.out 0).trans rfl
   have qgN : w7.cell? ⟨qbt, 1, none⟩ = some (.slice none 0 0) := (qai qaL.out 1).trans rfl
   have qgO : w7.cell? ⟨qbt, 2, none⟩ = some (.slice none 0 0) := (qai qaL.out 2).trans rfl
   have qkb : w7.cell? ⟨qbt, 3, none⟩ = some (.int .i64 0) := (qai qaL.out 3).trans rfl
   have qkc : w7.cell? ⟨qbt, 4, none⟩ = some (.int .i64 0) := (qai qaL.out 4).trans rfl
   have qgP := qaj qaL.out 0
   have qgQ := qaj qaL.out 1
   have qgR := qaj qaL.out 2
   have qkd := qaj qaL.out 3
   have qke := qaj qaL.out 4
   go_wp2_with (first | ((with_reducible refine qaK (f := 76) rfl ?_); refine qbm (some 20) rfl rfl Try.func76 (by kernel_rfl) rfl #[.agg #[.slice A0_0 l0_0.length c0_0, .slice A0_1 l0_1.length c0_1, .slice A0_2 l0_2.length c0_2, .int .i64 a0_3, .int .i64 a0_4]] rfl (by (try simp only [List.map_toArray, List.map_cons, List.map_nil]); first | done | rfl | (simp only [List.length_drop, List.length_take]; rfl)) ?_; (with_reducible refine (qat.calls k _ _ l0_0 _ _ l0_1 _ _ l0_2 a0_3 a0_4 true _ ?side1 ?side2 ?side3 ?side4 ?side5 ?side6 A10.out).mono ?_); (case side1 => exact Kd.C_below qda.out (by repeat (first | (with_reducible first | exact HB.out | apply qaf | apply qad | apply qah | refine qag ?_ qcu.out | refine qag ?_ qcB.out) | exact HB.out))); (case side2 => exact qdt.out); (case side3 => exact Kd.C_below qde.out (by repeat (first | (with_reducible first | exact HB.out | apply qaf | apply qad | apply qah | refine qag ?_ qcu.out | refine qag ?_ qcB.out) | exact HB.out))); (case side4 => exact qdu.out); (case side5 => exact Kd.C_below qdf.out (by repeat (first | (with_reducible first | exact HB.out | apply qaf | apply qad | apply qah | refine qag ?_ qcu.out | refine qag ?_ qcB.out) | exact HB.out))); (case side6 => exact qdv.out); rintro e w19 ⟨rfl, hb⟩; refine ⟨_, rfl, ?_⟩; have n0_ := qaa.mk (qan (g := qct) (o := .cells #[.slice A0_0 l0_0.length c0_0, .slice A0_1 l0_1.length c0_1, .slice A0_2 l0_2.length c0_2, .int .i64 a0_3, .int .i64 a0_4] 39 (0, 0)) (by (with_reducible repeat (first | refine qac ?_ _ | refine qae ?_ | refine qab ?_ _)); refine qao ?_ qcP.out _; (with_reducible repeat (first | refine qac ?_ _ | refine qae ?_ | refine qab ?_ _)); refine qao ?_ qcP.out _; (with_reducible repeat (first | refine qac ?_ _ | refine qae ?_ | refine qab ?_ _)); refine qao ?_ qcP.out _; (with_reducible repeat (first | refine qac ?_ _ | refine qae ?_ | refine qab ?_ _)); refine qao ?_ qcP.out _; (with_reducible repeat (first | refine qac ?_ _ | refine qae ?_ | refine qab ?_ _)); refine qao ?_ qcP.out _; (with_reducible repeat (first | refine qac ?_ _ | refine qae ?_ | refine qab ?_ _)); exact qbl.out) hb); have n1_ := qaa.mk (qan (g := qbt) (o := .cells #[.slice A0_0 l0_0.length c0_0, .slice A0_1 l0_1.length c0_1, .slice A0_2 l0_2.length c0_2, .int .i64 a0_3, .int .i64 a0_4] 111 (0, 0)) (by (with_reducible repeat (first | refine qac ?_ _ | refine qae ?_ | refine qab ?_ _)); refine qaw (cs := #[.slice A0_0 l0_0.length c0_0, .slice A0_1 l0_1.length c0_1, .slice A0_2 l0_2.length c0_2, .int .i64 a0_3, .int .i64 0]) ?_ 4 _ rfl; (with_reducible repeat (first | refine qac ?_ _ | refine qae ?_ | refine qab ?_ _)); refine qaw (cs := #[.slice A0_0 l0_0.length c0_0, .slice A0_1 l0_1.length c0_1, .slice A0_2 l0_2.length c0_2, .int .i64 0, .int .i64 0]) ?_ 3 _ rfl; (with_reducible repeat (first | refine qac ?_ _ | refine qae ?_ | refine qab ?_ _)); refine qaw (cs := #[.slice A0_0 l0_0.length c0_0, .slice A0_1 l0_1.length c0_1, .slice none 0 0, .int .i64 0, .int .i64 0]) ?_ 2 _ rfl; (with_reducible repeat (first | refine qac ?_ _ | refine qae ?_ | refine qab ?_ _)); refine qaw (cs := #[.slice A0_0 l0_0.length c0_0, .slice none 0 0, .slice none 0 0, .int .i64 0, .int .i64 0]) ?_ 1 _ rfl; (with_reducible repeat (first | refine qac ?_ _ | refine qae ?_ | refine qab ?_ _)); refine qaw (cs := #[.slice none 0 0, .slice none 0 0, .slice none 0 0, .int .i64 0, .int .i64 0]) ?_ 0 _ rfl; (with_reducible repeat (first | refine qac ?_ _ | refine qae ?_ | refine qab ?_ _)); exact qaL.out) hb); have n2_ := qaa.mk (qar (by repeat (first | (with_reducible first | exact HB.out | apply qaf | apply qad | apply qah | refine qag ?_ qcu.out | refine qag ?_ qcB.out) | exact HB.out)) hb); clear qbl; clear qaL; clear HB; have qbl := n0_; have qaL := n1_; have HB := n2_; clear n0_ n1_ n2_; (try clear hb); (try clear hb2); (try clear hk); (try clear hi)) | (go_at_call 65; (with_reducible refine (qas.calls (l1.length : Int) 1 10 false _ A12.out).mono ?_); rintro e w' ⟨rfl, ⟨nd, rfl⟩⟩))
   go_meet
   case rel => exact ⟨_, (false), (by first | rfl | (simp; done) | (simp [*]; done)), H', ⟨by first | omega | exact Nat.le_refl _⟩, ⟨by (with_reducible repeat (first | refine qac ?_ _ | refine qae ?_ | refine qab ?_ _)); exact qbl.out⟩, ⟨by (with_reducible repeat (first | refine qac ?_ _ | refine qae ?_ | refine qab ?_ _)); exact qaL.out⟩, ⟨by repeat (first | (with_reducible first | exact HB.out | apply qaf | apply qad | apply qah | refine qag ?_ qcu.out | refine qag ?_ qcB.out) | exact HB.out)⟩⟩
  replace c11 := Bool.eq_false_iff.mpr c11
  subst c11
  have H1 : (qaP.j0 k l1 l2 false l0_0 l0_1 l0_2 a0_3 a0_4) = some (r1, r2) := by rw [if_neg (show ¬ (false = true) by decide)] at H; exact H
  clear H
  have H := H1
  clear H1
  have H' := qaa.mk H
  clear H
  have qtD := qhL.out
  have qtE := qcP.out
  have qgd : w7.cell? ⟨qbt, 0, none⟩ = some (.slice none 0 0) := (qai qaL.out 0).trans rfl
  have qge : w7.cell? ⟨qbt, 1, none⟩ = some (.slice none 0 0) := (qai qaL.out 1).trans rfl
  have qgf : w7.cell? ⟨qbt, 2, none⟩ = some (.slice none 0 0) := (qai qaL.out 2).trans rfl
  have qkf : w7.cell? ⟨qbt, 3, none⟩ = some (.int .i64 0) := (qai qaL.out 3).trans rfl
  have qkg : w7.cell? ⟨qbt, 4, none⟩ = some (.int .i64 0) := (qai qaL.out 4).trans rfl
  have qgg := qaj qaL.out 0
  have qgh := qaj qaL.out 1
  have qgi := qaj qaL.out 2
  have qkh := qaj qaL.out 3
  have qki := qaj qaL.out 4
  go_wp2_with (first | ((with_reducible refine qaK (f := 76) rfl ?_); refine qbm (some 20) rfl rfl Try.func76 (by kernel_rfl) rfl #[.agg #[.slice A0_0 l0_0.length c0_0, .slice A0_1 l0_1.length c0_1, .slice A0_2 l0_2.length c0_2, .int .i64 a0_3, .int .i64 a0_4]] rfl (by (try simp only [List.map_toArray, List.map_cons, List.map_nil]); first | done | rfl | (simp only [List.length_drop, List.length_take]; rfl)) ?_; (with_reducible refine (qat.calls k _ _ l0_0 _ _ l0_1 _ _ l0_2 a0_3 a0_4 false _ ?side1 ?side2 ?side3 ?side4 ?side5 ?side6 A10.out).mono ?_); (case side1 => exact Kd.C_below qda.out (by repeat (first | (with_reducible first | exact HB.out | apply qaf | apply qad | apply qah | refine qag ?_ qcu.out | refine qag ?_ qcB.out) | exact HB.out))); (case side2 => exact qdt.out); (case side3 => exact Kd.C_below qde.out (by repeat (first | (with_reducible first | exact HB.out | apply qaf | apply qad | apply qah | refine qag ?_ qcu.out | refine qag ?_ qcB.out) | exact HB.out))); (case side4 => exact qdu.out); (case side5 => exact Kd.C_below qdf.out (by repeat (first | (with_reducible first | exact HB.out | apply qaf | apply qad | apply qah | refine qag ?_ qcu.out | refine qag ?_ qcB.out) | exact HB.out))); (case side6 => exact qdv.out); rintro e w22 ⟨rfl, hb⟩; refine ⟨_, rfl, ?_⟩; have n0_ := qaa.mk (qan (g := qct) (o := .cells #[.slice A0_0 l0_0.length c0_0, .slice A0_1 l0_1.length c0_1, .slice A0_2 l0_2.length c0_2, .int .i64 a0_3, .int .i64 a0_4] 39 (0, 0)) (by (with_reducible repeat (first | refine qac ?_ _ | refine qae ?_ | refine qab ?_ _)); refine qao ?_ qcP.out _; (with_reducible repeat (first | refine qac ?_ _ | refine qae ?_ | refine qab ?_ _)); refine qao ?_ qcP.out _; (with_reducible repeat (first | refine qac ?_ _ | refine qae ?_ | refine qab ?_ _)); refine qao ?_ qcP.out _; (with_reducible repeat (first | refine qac ?_ _ | refine qae ?_ | refine qab ?_ _)); refine qao ?_ qcP.out _; (with_reducible repeat (first | refine qac ?_ _ | refine qae ?_ | refine qab ?_ _)); refine qao ?_ qcP.out _; (with_reducible repeat (first | refine qac ?_ _ | refine qae ?_ | refine qab ?_ _)); exact qbl.out) hb); have n1_ := qaa.mk (qan (g := qbt) (o := .cells #[.slice A0_0 l0_0.length c0_0, .slice A0_1 l0_1.length c0_1, .slice A0_2 l0_2.length c0_2, .int .i64 a0_3, .int .i64 a0_4] 111 (0, 0)) (by (with_reducible repeat (first | refine qac ?_ _ | refine qae ?_ | refine qab ?_ _)); refine qaw (cs := #[.slice A0_0 l0_0.length c0_0, .slice A0_1 l0_1.length c0_1, .slice A0_2 l0_2.length c0_2, .int .i64 a0_3, .int .i64 0]) ?_ 4 _ rfl; (with_reducible repeat (first | refine qac ?_ _ | refine qae ?_ | refine qab ?_ _)); refine qaw (cs := #[.slice A0_0 l0_0.length c0_0, .slice A0_1 l0_1.length c0_1, .slice A0_2 l0_2.length c0_2, .int .i64 0, .int .i64 0]) ?_ 3 _ rfl; (with_reducible repeat (first | refine qac ?_ _ | refine qae ?_ | refine qab ?_ _)); refine qaw (cs := #[.slice A0_0 l0_0.length c0_0, .slice A0_1 l0_1.length c0_1, .slice none 0 0, .int .i64 0, .int .i64 0]) ?_ 2 _ rfl; (with_reducible repeat (first | refine qac ?_ _ | refine qae ?_ | refine qab ?_ _)); refine qaw (cs := #[.slice A0_0 l0_0.length c0_0, .slice none 0 0, .slice none 0 0, .int .i64 0, .int .i64 0]) ?_ 1 _ rfl; (with_reducible repeat (first | refine qac ?_ _ | refine qae ?_ | refine qab ?_ _)); refine qaw (cs := #[.slice none 0 0, .slice none 0 0, .slice none 0 0, .int .i64 0, .int .i64 0]) ?_ 0 _ rfl; (with_reducible repeat (first | refine qac ?_ _ | refine qae ?_ | refine qab ?_ _)); exact qaL.out) hb); have n2_ := qaa.mk (qar (by repeat (first | (with_reducible first | exact HB.out | apply qaf | apply qad | apply qah | refine qag ?_ qcu.out | refine qag ?_ qcB.out) | exact HB.out)) hb); clear qbl; clear qaL; clear HB; have qbl := n0_; have qaL := n1_; have HB := n2_; clear n0_ n1_ n2_; (try clear hb); (try clear hb2); (try clear hk); (try clear hi)))
  go_meet
  case rel => exact ⟨_, (false), (by first | rfl | (simp; done) | (simp [*]; done)), H', ⟨by first | omega | exact Nat.le_refl _⟩, ⟨by (with_reducible repeat (first | refine qac ?_ _ | refine qae ?_ | refine qab ?_ _)); exact qbl.out⟩, ⟨by (with_reducible repeat (first | refine qac ?_ _ | refine qae ?_ | refine qab ?_ _)); exact qaL.out⟩, ⟨by repeat (first | (with_reducible first | exact HB.out | apply qaf | apply qad | apply qah | refine qag ?_ qcu.out | refine qag ?_ qcB.out) | exact HB.out)⟩⟩
 case rest =>
  clear HC4
  try clear c1
  try clear c2
  try clear p2
  try clear c7
  try clear c8
  try clear c11
  try clear c13
  try clear c14
  try clear c17
  try clear c20
  try clear qgo
  try clear qgp
  try clear qg0
  try clear qg1
  try clear qg2
  try clear qgM
  try clear qgN
  try clear qgO
  try clear qkb
  try clear qkc
  try clear qgd
  try clear qge
  try clear qgf
  try clear qkf
  try clear qkg
  try clear qiq
  try clear qir
  try clear qi5
  try clear qle
  try clear qlf
  try clear qeA
  try clear qeB
  try clear qeN
  try clear qli
  try clear qlj
  try clear qgq
  try clear qgr
  try clear qg3
  try clear qg4
  try clear qg5
  try clear qgP
  try clear qgQ
  try clear qgR
  try clear qkd
  try clear qke
  try clear qgg
  try clear qgh
  try clear qgi
  try clear qkh
  try clear qki
  try clear qis
  try clear qit
  try clear qi6
  try clear qlg
  try clear qlh
  try clear qeC
  try clear qeD
  try clear qeO
  try clear qlk
  try clear qll
  obtain ⟨kq, x9_3, rfl, HA, HJ3, qbl, qaL, HB⟩ := hcut
  cases kq with
  | zero => exact absurd HA.out (by simp [qaP.j0])
  | succ kj3 =>
   have H := HA.out
   clear HA
   simp only [qaP.j0] at H
   have H' := qaa.mk H
   clear H
   go_wp2
   go_loopg [9, 10] kj3 (fun kq v9 v10 w' => ∃ (x9_2 : Bool) (qcn : Int), v9 = .bool x9_2 ∧ v10 = .int .i64 qcn ∧ qaa (qaP.l0 kq l1 l2 x9_2 qcn l0_0 l0_1 l0_2 a0_3 a0_4 = some (r1, r2)) ∧ qaa (kq ≤ kj3) ∧ qaa (w'.heap[qct]? = some (.cells #[(.slice A0_0 l0_0.length c0_0), (.slice A0_1 l0_1.length c0_1), (.slice A0_2 l0_2.length c0_2), .int .i64 a0_3, .int .i64 a0_4] 39 (0, 0))) ∧ qaa (w'.heap[qbt]? = some (.cells #[(.slice A0_0 l0_0.length c0_0), (.slice A0_1 l0_1.length c0_1), (.slice A0_2 l0_2.length c0_2), .int .i64 a0_3, .int .i64 a0_4] 111 (0, 0))) ∧ qaa (Below w.heap.size w w'))
   case atStart => exact ⟨(x9_3), (0), (by first | rfl | (simp; done) | (simp [*]; done)), (by first | rfl | (simp; done) | (simp [*]; done)), H', ⟨Nat.le_refl _⟩, ⟨by (with_reducible repeat (first | refine qac ?_ _ | refine qae ?_ | refine qab ?_ _)); exact qbl.out⟩, ⟨by (with_reducible repeat (first | refine qac ?_ _ | refine qae ?_ | refine qab ?_ _)); exact qaL.out⟩, ⟨by repeat (first | (with_reducible first | exact HB.out | apply qaf | apply qad | apply qah | refine qag ?_ qcu.out | refine qag ?_ qcB.out) | exact HB.out)⟩⟩
   case round =>
    clear H'; (try clear c1); (try clear c2); (try clear p2); (try clear c7); (try clear c8); (try clear c11); (try clear c13); (try clear c14); (try clear c17); (try clear c20); (try clear qgo); (try clear qgp); (try clear qg0); (try clear qg1); (try clear qg2); (try clear qgM); (try clear qgN); (try clear qgO); (try clear qkb); (try clear qkc); (try clear qgd); (try clear qge); (try clear qgf); (try clear qkf); (try clear qkg); (try clear qiq); (try clear qir); (try clear qi5); (try clear qle); (try clear qlf); (try clear qeA); (try clear qeB); (try clear qeN); (try clear qli); (try clear qlj); (try clear qgq); (try clear qgr); (try clear qg3); (try clear qg4); (try clear qg5); (try clear qgP); (try clear qgQ); (try clear qgR); (try clear qkd); (try clear qke); (try clear qgg); (try clear qgh); (try clear qgi); (try clear qkh); (try clear qki); (try clear qis); (try clear qit); (try clear qi6); (try clear qlg); (try clear qlh); (try clear qeC); (try clear qeD); (try clear qeO); (try clear qlk); (try clear qll); (try clear p2); obtain ⟨x9_2, qcn, rfl, rfl, HA, HK2, qbl, qaL, HB⟩ := hrel
    cases gk with
    | zero => exact absurd HA.out (by simp [qaP.l0])
    | succ k2 =>
     have H := HA.out; clear HA; simp only [qaP.l0] at H; have HC23 := qaa.mk H; clear H
     go_upto_region 4 with (fail)
     go_cut [39] (fun v39 wc => ∃ (kq : Nat) (qlm : Bool), v39 = .bool qlm ∧ qaa (qaP.j2 kq l1 l2 x9_2 qcn qlm l0_0 l0_1 l0_2 a0_3 a0_4 = some (r1, r2)) ∧ qaa (kq ≤ k2) ∧ qaa (wc.heap[qct]? = some (.cells #[(.slice A0_0 l0_0.length c0_0), (.slice A0_1 l0_1.length c0_1), (.slice A0_2 l0_2.length c0_2), .int .i64 a0_3, .int .i64 a0_4] 39 (0, 0))) ∧ qaa (wc.heap[qbt]? = some (.cells #[(.slice A0_0 l0_0.length c0_0), (.slice A0_1 l0_1.length c0_1), (.slice A0_2 l0_2.length c0_2), .int .i64 a0_3, .int .i64 a0_4] 111 (0, 0))) ∧ qaa (Below w.heap.size w wc))
     case first =>
      have H := HC23.out; clear HC23
      by_cases c24 : x9_2 = true
      ·
       subst c24
       have H1 : (qaP.j2 k2 l1 l2 true qcn (decide (qcn < (l1.length : Int))) l0_0 l0_1 l0_2 a0_3 a0_4) = some (r1, r2) := by rw [if_pos rfl] at H; exact H
       clear H; have H := H1; clear H1; have H' := qaa.mk H; clear H
       go_wp2
       go_meet
       case rel => exact ⟨_, (decide (qcn < (l1.length : Int))), (by first | rfl | (simp; done) | (simp [*]; done)), H', ⟨by have := HJ3.out; have := HK2.out; first | omega | exact Nat.le_refl _⟩, ⟨by (with_reducible repeat (first | refine qac ?_ _ | refine qae ?_ | refine qab ?_ _)); exact qbl.out⟩, ⟨by (with_reducible repeat (first | refine qac ?_ _ | refine qae ?_ | refine qab ?_ _)); exact qaL.out⟩, ⟨by repeat (first | (with_reducible first | exact HB.out | apply qaf | apply qad | apply qah | refine qag ?_ qcu.out | refine qag ?_ qcB.out) | exact HB.out)⟩⟩
      replace c24 := Bool.eq_false_iff.mpr c24; subst c24
      have H1 : (qaP.j2 k2 l1 l2 false qcn false l0_0 l0_1 l0_2 a0_3 a0_4) = some (r1, r2) := by rw [if_neg (show ¬ (false = true) by decide)] at H; exact H
      clear H; have H := H1; clear H1; have H' := qaa.mk H; clear H
      go_wp2
      go_meet
      case rel => exact ⟨_, (false), (by first | rfl | (simp; done) | (simp [*]; done)), H', ⟨by have := HJ3.out; have := HK2.out; first | omega | exact Nat.le_refl _⟩, ⟨by (with_reducible repeat (first | refine qac ?_ _ | refine qae ?_ | refine qab ?_ _)); exact qbl.out⟩, ⟨by (with_reducible repeat (first | refine qac ?_ _ | refine qae ?_ | refine qab ?_ _)); exact qaL.out⟩, ⟨by repeat (first | (with_reducible first | exact HB.out | apply qaf | apply qad | apply qah | refine qag ?_ qcu.out | refine qag ?_ qcB.out) | exact HB.out)⟩⟩
     case rest =>
      clear HC23; (try clear c1); (try clear c2); (try clear p2); (try clear c7); (try clear c8); (try clear c11); (try clear c13); (try clear c14); (try clear c17); (try clear c20); (try clear c24); (try clear qgo); (try clear qgp); (try clear qg0); (try clear qg1); (try clear qg2); (try clear qgM); (try clear qgN); (try clear qgO); (try clear qkb); (try clear qkc); (try clear qgd); (try clear qge); (try clear qgf); (try clear qkf); (try clear qkg); (try clear qiq); (try clear qir); (try clear qi5); (try clear qle); (try clear qlf); (try clear qeA); (try clear qeB); (try clear qeN); (try clear qli); (try clear qlj); (try clear qgq); (try clear qgr); (try clear qg3); (try clear qg4); (try clear qg5); (try clear qgP); (try clear qgQ); (try clear qgR); (try clear qkd); (try clear qke); (try clear qgg); (try clear qgh); (try clear qgi); (try clear qkh); (try clear qki); (try clear qis); (try clear qit); (try clear qi6); (try clear qlg); (try clear qlh); (try clear qeC); (try clear qeD); (try clear qeO); (try clear qlk); (try clear qll); (try clear p2); obtain ⟨kq, qlm, rfl, HA, HJ22, qbl, qaL, HB⟩ := hcut
      cases kq with
      | zero => exact absurd HA.out (by simp [qaP.j2])
      | succ kj22 =>
       have H := HA.out; clear HA; simp only [qaP.j2] at H
       by_cases c25 : qlm = true
       ·
        subst c25
        have H1 : (if 0 ≤ qcn then (if qcn < (l1.length : Int) then ((qas.f (rd l1 qcn) 0 100000000).bind fun t159 => (if t159 = true then (if qcn < (l2.length : Int) then ((qas.f (rd l2 qcn) 0 100000).bind fun t161 => (qaP.l0 kj22 l1 l2 t161 (wrap64 (qcn + 1)) l0_0 l0_1 l0_2 a0_3 a0_4)) else (none)) else (qaP.l0 kj22 l1 l2 false (wrap64 (qcn + 1)) l0_0 l0_1 l0_2 a0_3 a0_4))) else (none)) else (none)) = some (r1, r2) := by rw [if_pos rfl] at H; exact H
        clear H; have H := H1; clear H1
        by_cases c26 : 0 ≤ qcn
        ·
         rw [if_pos c26] at H; have c26b0 : decide (0 ≤ qcn) = true := decide_eq_true c26; clear c26
         by_cases c27 : qcn < (l1.length : Int)
         ·
          rw [if_pos c27] at H; have c27b0 : decide (qcn < (l1.length : Int)) = true := decide_eq_true c27; clear c27; replace H := Option.bind_eq_some_iff.mp H; obtain ⟨t159, A280, H⟩ := H; replace H : (if t159 = true then (if qcn < (l2.length : Int) then ((qas.f (rd l2 qcn) 0 100000).bind fun t161 => (qaP.l0 kj22 l1 l2 t161 (wrap64 (qcn + 1)) l0_0 l0_1 l0_2 a0_3 a0_4)) else (none)) else (qaP.l0 kj22 l1 l2 false (wrap64 (qcn + 1)) l0_0 l0_1 l0_2 a0_3 a0_4)) = some (r1, r2) := H; have A28 := qaa.mk A280; clear A280
          by_cases c29 : t159 = true
          ·
           subst c29
           have H1 : (if qcn < (l2.length : Int) then ((qas.f (rd l2 qcn) 0 100000).bind fun t161 => (qaP.l0 kj22 l1 l2 t161 (wrap64 (qcn + 1)) l0_0 l0_1 l0_2 a0_3 a0_4)) else (none)) = some (r1, r2) := by rw [if_pos rfl] at H; exact H
           clear H; have H := H1; clear H1
           by_cases c30 : qcn < (l2.length : Int)
           ·
            rw [if_pos c30] at H; have c30b0 : decide (qcn < (l2.length : Int)) = true := decide_eq_true c30; clear c30; replace H := Option.bind_eq_some_iff.mp H; obtain ⟨t161, A310, H⟩ := H; replace H : (qaP.l0 kj22 l1 l2 t161 (wrap64 (qcn + 1)) l0_0 l0_1 l0_2 a0_3 a0_4) = some (r1, r2) := H; have A31 := qaa.mk A310; clear A310; have H' := qaa.mk H; clear H; have p158 : 0 ≤ (qcn : Int) := of_decide_eq_true (by first | (with_reducible assumption) | assumption); have q158 : qcn < (l1.length : Int) := of_decide_eq_true (by first | (with_reducible assumption) | assumption); obtain ⟨quA, e158, qg6⟩ := Kd.at_int HR1.out qcn p158 q158; cases e158; replace qg6 := (HB.out.cell (World.block_lt_of_cell? w _ qg6)).trans qg6; replace p158 := eq_true p158; replace q158 := eq_true q158
            go_wp2_with (first | ((with_reducible refine qaK (f := 65) rfl ?_); refine qbm (some 46) rfl rfl Try.func65 (by kernel_rfl) rfl #[.int .i64 (rd l1 qcn), .int .i64 0, .int .i64 100000000] rfl (by (try simp only [List.map_toArray, List.map_cons, List.map_nil]); first | done | rfl | (simp only [List.length_drop, List.length_take]; rfl)) ?_; (with_reducible refine (qas.calls (rd l1 qcn) 0 100000000 true _ A28.out).mono ?_); rintro e w' ⟨rfl, ⟨nd, rfl⟩⟩; refine ⟨_, rfl, ?_⟩; have p160 : 0 ≤ (qcn : Int) := of_decide_eq_true (by first | (with_reducible assumption) | assumption); have q160 : qcn < (l2.length : Int) := of_decide_eq_true (by first | (with_reducible assumption) | assumption); obtain ⟨qDu, e160, qkj⟩ := Kd.at_int HR2.out qcn p160 q160; cases e160; replace qkj := (HB.out.cell (World.block_lt_of_cell? w _ qkj)).trans qkj; replace p160 := eq_true p160; replace q160 := eq_true q160) | (go_at_call 65; (with_reducible refine (qas.calls (rd l2 qcn) 0 100000 t161 _ A31.out).mono ?_); rintro e w' ⟨rfl, ⟨nd, rfl⟩⟩))
            go_roundg kj22
            case measure => have := HJ3.out; have := HK2.out; have := HJ22.out; omega
            case rel => exact ⟨(t161), (wrap64 (qcn + 1)), (by first | rfl | (simp; done) | (simp [*]; done)), (by first | rfl | (simp; done) | (simp [*]; done)), H', ⟨by have := HJ3.out; have := HK2.out; have := HJ22.out; omega⟩, ⟨by (with_reducible repeat (first | refine qac ?_ _ | refine qae ?_ | refine qab ?_ _)); exact qbl.out⟩, ⟨by (with_reducible repeat (first | refine qac ?_ _ | refine qae ?_ | refine qab ?_ _)); exact qaL.out⟩, ⟨by repeat (first | (with_reducible first | exact HB.out | apply qaf | apply qad | apply qah | refine qag ?_ qcu.out | refine qag ?_ qcB.out) | exact HB.out)⟩⟩
           rw [if_neg c30] at H
           exact absurd H (by simp)
          replace c29 := Bool.eq_false_iff.mpr c29; subst c29
          have H1 : (qaP.l0 kj22 l1 l2 false (wrap64 (qcn + 1)) l0_0 l0_1 l0_2 a0_3 a0_4) = some (r1, r2) := by rw [if_neg (show ¬ (false = true) by decide)] at H; exact H
          clear H; have H := H1; clear H1; have H' := qaa.mk H; clear H; have p158 : 0 ≤ (qcn : Int) := of_decide_eq_true (by first | (with_reducible assumption) | assumption); have q158 : qcn < (l1.length : Int) := of_decide_eq_true (by first | (with_reducible assumption) | assumption); obtain ⟨quA, e158, qg6⟩ := Kd.at_int HR1.out qcn p158 q158; cases e158; replace qg6 := (HB.out.cell (World.block_lt_of_cell? w _ qg6)).trans qg6; replace p158 := eq_true p158; replace q158 := eq_true q158
          go_wp2_with (first | ((with_reducible refine qaK (f := 65) rfl ?_); refine qbm (some 46) rfl rfl Try.func65 (by kernel_rfl) rfl #[.int .i64 (rd l1 qcn), .int .i64 0, .int .i64 100000000] rfl (by (try simp only [List.map_toArray, List.map_cons, List.map_nil]); first | done | rfl | (simp only [List.length_drop, List.length_take]; rfl)) ?_; (with_reducible refine (qas.calls (rd l1 qcn) 0 100000000 false _ A28.out).mono ?_); rintro e w' ⟨rfl, ⟨nd, rfl⟩⟩; refine ⟨_, rfl, ?_⟩))
          go_roundg kj22
          case measure => have := HJ3.out; have := HK2.out; have := HJ22.out; omega
          case rel => exact ⟨(false), (wrap64 (qcn + 1)), (by first | rfl | (simp; done) | (simp [*]; done)), (by first | rfl | (simp; done) | (simp [*]; done)), H', ⟨by have := HJ3.out; have := HK2.out; have := HJ22.out; omega⟩, ⟨by (with_reducible repeat (first | refine qac ?_ _ | refine qae ?_ | refine qab ?_ _)); exact qbl.out⟩, ⟨by (with_reducible repeat (first | refine qac ?_ _ | refine qae ?_ | refine qab ?_ _)); exact qaL.out⟩, ⟨by repeat (first | (with_reducible first | exact HB.out | apply qaf | apply qad | apply qah | refine qag ?_ qcu.out | refine qag ?_ qcB.out) | exact HB.out)⟩⟩
         rw [if_neg c27] at H
         exact absurd H (by simp)
        rw [if_neg c26] at H
        exact absurd H (by simp)
       replace c25 := Bool.eq_false_iff.mpr c25; subst c25
       have H1 : (if x9_2 = true then ((qcy.f l0_0 l0_1 l0_2 a0_3 a0_4).bind fun qeu => (qaP.l1 kj22 l1 l2 ([] : List Int) (l1.length : Int) 0 l0_0 l0_1 l0_2 a0_3 a0_4 qeu.1 qeu.2.1 qeu.2.2.1 qeu.2.2.2.1 qeu.2.2.2.2.1 qeu.2.2.2.2.2)) else (some (([] : List Int), 92))) = some (r1, r2) := by rw [if_neg (show ¬ (false = true) by decide)] at H; exact H
       clear H; have H := H1; clear H1
       by_cases c32 : x9_2 = true
       ·
        subst c32
        have H1 : ((qcy.f l0_0 l0_1 l0_2 a0_3 a0_4).bind fun qeu => (qaP.l1 kj22 l1 l2 ([] : List Int) (l1.length : Int) 0 l0_0 l0_1 l0_2 a0_3 a0_4 qeu.1 qeu.2.1 qeu.2.2.1 qeu.2.2.2.1 qeu.2.2.2.2.1 qeu.2.2.2.2.2)) = some (r1, r2) := by rw [if_pos rfl] at H; exact H
        clear H; have H := H1; clear H1; replace H := Option.bind_eq_some_iff.mp H; obtain ⟨⟨t162, t163, t164, t165, t166, t167⟩, A330, H⟩ := H; replace H : (qaP.l1 kj22 l1 l2 ([] : List Int) (l1.length : Int) 0 l0_0 l0_1 l0_2 a0_3 a0_4 t162 t163 t164 t165 t166 t167) = some (r1, r2) := H; have A33 := qaa.mk A330; clear A330; have H' := qaa.mk H; clear H; have qud := qhL.out; have que := qcP.out; have qmc : wc.cell? ⟨qbt, 0, none⟩ = some (.slice A0_0 l0_0.length c0_0) := (qai qaL.out 0).trans rfl; have qmd : wc.cell? ⟨qbt, 1, none⟩ = some (.slice A0_1 l0_1.length c0_1) := (qai qaL.out 1).trans rfl; have qsn : wc.cell? ⟨qbt, 2, none⟩ = some (.slice A0_2 l0_2.length c0_2) := (qai qaL.out 2).trans rfl; have qso : wc.cell? ⟨qbt, 3, none⟩ = some (.int .i64 a0_3) := (qai qaL.out 3).trans rfl; have qsp : wc.cell? ⟨qbt, 4, none⟩ = some (.int .i64 a0_4) := (qai qaL.out 4).trans rfl; have qme := qaj qaL.out 0; have qmf := qaj qaL.out 1; have qsq := qaj qaL.out 2; have qsr := qaj qaL.out 3; have qss := qaj qaL.out 4
        go_wp2_with (first | ((with_reducible refine qaK (f := 78) rfl ?_); refine qbm (some 57) rfl rfl Try.func78 (by kernel_rfl) rfl #[.agg #[.slice A0_0 l0_0.length c0_0, .slice A0_1 l0_1.length c0_1, .slice A0_2 l0_2.length c0_2, .int .i64 a0_3, .int .i64 a0_4]] rfl (by (try simp only [List.map_toArray, List.map_cons, List.map_nil]); first | done | rfl | (simp only [List.length_drop, List.length_take]; rfl)) ?_; (with_reducible refine (qcy.calls _ _ l0_0 _ _ l0_1 _ _ l0_2 a0_3 a0_4 t162 t163 t164 t165 t166 t167 _ ?side1 ?side2 ?side3 ?side4 ?side5 ?side6 A33.out).mono ?_); (case side1 => repeat (first | exact (Kd.C_below qda.out HB.out) | (with_reducible refine Kd.C_alloc ?_ _) | (with_reducible refine Kd.C_drewN ?_ _) | (with_reducible refine Kd.C_drew ?_))); (case side2 => exact qdt.out); (case side3 => repeat (first | exact (Kd.C_below qde.out HB.out) | (with_reducible refine Kd.C_alloc ?_ _) | (with_reducible refine Kd.C_drewN ?_ _) | (with_reducible refine Kd.C_drew ?_))); (case side4 => exact qdu.out); (case side5 => repeat (first | exact (Kd.C_below qdf.out HB.out) | (with_reducible refine Kd.C_alloc ?_ _) | (with_reducible refine Kd.C_drewN ?_ _) | (with_reducible refine Kd.C_drew ?_))); (case side6 => exact qdv.out); rintro e w36 ⟨rfl, hb⟩; refine ⟨_, rfl, ?_⟩; have n0_ := qaa.mk (qan (g := qct) (o := .cells #[.slice A0_0 l0_0.length c0_0, .slice A0_1 l0_1.length c0_1, .slice A0_2 l0_2.length c0_2, .int .i64 a0_3, .int .i64 a0_4] 39 (0, 0)) (by (with_reducible repeat (first | refine qac ?_ _ | refine qae ?_ | refine qab ?_ _)); exact qbl.out) hb); have n1_ := qaa.mk (qan (g := qbt) (o := .cells #[.slice A0_0 l0_0.length c0_0, .slice A0_1 l0_1.length c0_1, .slice A0_2 l0_2.length c0_2, .int .i64 a0_3, .int .i64 a0_4] 111 (0, 0)) (by (with_reducible repeat (first | refine qac ?_ _ | refine qae ?_ | refine qab ?_ _)); exact qaL.out) hb); have n2_ := qaa.mk (qar (by repeat (first | (with_reducible first | exact HB.out | apply qaf | apply qad | apply qah | refine qag ?_ qcu.out | refine qag ?_ qcB.out) | exact HB.out)) hb); clear qbl; clear qaL; clear HB; have qbl := n0_; have qaL := n1_; have HB := n2_; clear n0_ n1_ n2_; (try clear hb); (try clear hb2); (try clear hk); (try clear hi)) | ((with_reducible refine qaN (N := 12) rfl ?_); (try (refine qed (by rfl) ?_; dsimp only)); refine qa9 ?hg (N := 12) ?hd (cs := #[.int .i64 0, .int .i64 0, .int .i64 0, .int .i64 0, .int .i64 0, .int .i64 0]) (t := 115) ?hr ?_; (case hd => rfl); (case hg => rfl); (case hr => first | (go_simp; done) | (go_simp; rfl)); intro qa7 hg w37 hbox hb; have n0_ := qaa.mk (qan (g := qct) (o := .cells #[.slice A0_0 l0_0.length c0_0, .slice A0_1 l0_1.length c0_1, .slice A0_2 l0_2.length c0_2, .int .i64 a0_3, .int .i64 a0_4] 39 (0, 0)) (by (with_reducible repeat (first | refine qac ?_ _ | refine qae ?_ | refine qab ?_ _)); exact qbl.out) hb); have n1_ := qaa.mk (qan (g := qbt) (o := .cells #[.slice A0_0 l0_0.length c0_0, .slice A0_1 l0_1.length c0_1, .slice A0_2 l0_2.length c0_2, .int .i64 a0_3, .int .i64 a0_4] 111 (0, 0)) (by (with_reducible repeat (first | refine qac ?_ _ | refine qae ?_ | refine qab ?_ _)); exact qaL.out) hb); have n2_ := qaa.mk (qar (by repeat (first | (with_reducible first | exact HB.out | apply qaf | apply qad | apply qah | refine qag ?_ qcu.out | refine qag ?_ qcB.out) | exact HB.out)) hb); have n3_ := qaa.mk (hbox); have n4_ := qaa.mk ((by rw [hg]; exact (qam (by repeat (first | (with_reducible first | exact HB.out | apply qaf | apply qad | apply qah | refine qag ?_ qcu.out | refine qag ?_ qcB.out) | exact HB.out))) : w.heap.size ≤ qa7)); have n5_ := qaa.mk ((by rw [hg]; exact (qam (by repeat (first | (with_reducible first | exact HB.out | apply qaf | apply qad | apply qah | refine qag ?_ qcu.out | refine qag ?_ qcB.out) | exact HB.out))) : w.heap.size ≤ qa7)); have n6_ := qaa.mk ((by rw [hg]; exact Nat.ne_of_lt (qaA (g := qct) (o := .cells #[.slice A0_0 l0_0.length c0_0, .slice A0_1 l0_1.length c0_1, .slice A0_2 l0_2.length c0_2, .int .i64 a0_3, .int .i64 a0_4] 39 (0, 0)) (by (with_reducible repeat (first | refine qac ?_ _ | refine qae ?_ | refine qab ?_ _)); exact qbl.out)) : qct ≠ qa7)); have n7_ := qaa.mk ((by rw [hg]; exact Nat.ne_of_gt (qaA (g := qct) (o := .cells #[.slice A0_0 l0_0.length c0_0, .slice A0_1 l0_1.length c0_1, .slice A0_2 l0_2.length c0_2, .int .i64 a0_3, .int .i64 a0_4] 39 (0, 0)) (by (with_reducible repeat (first | refine qac ?_ _ | refine qae ?_ | refine qab ?_ _)); exact qbl.out)) : qa7 ≠ qct)); have n8_ := qaa.mk ((by rw [hg]; exact Nat.ne_of_lt (qaA (g := qbt) (o := .cells #[.slice A0_0 l0_0.length c0_0, .slice A0_1 l0_1.length c0_1, .slice A0_2 l0_2.length c0_2, .int .i64 a0_3, .int .i64 a0_4] 111 (0, 0)) (by (with_reducible repeat (first | refine qac ?_ _ | refine qae ?_ | refine qab ?_ _)); exact qaL.out)) : qbt ≠ qa7)); have n9_ := qaa.mk ((by rw [hg]; exact Nat.ne_of_gt (qaA (g := qbt) (o := .cells #[.slice A0_0 l0_0.length c0_0, .slice A0_1 l0_1.length c0_1, .slice A0_2 l0_2.length c0_2, .int .i64 a0_3, .int .i64 a0_4] 111 (0, 0)) (by (with_reducible repeat (first | refine qac ?_ _ | refine qae ?_ | refine qab ?_ _)); exact qaL.out)) : qa7 ≠ qbt)); clear qbl; clear qaL; clear HB; have qbl := n0_; have qaL := n1_; have HB := n2_; have qbd := n3_; have qDv := n4_; have qfb := n5_; have qcV := n6_; have qfT := n7_; have qcW := n8_; have qfU := n9_; clear n0_ n1_ n2_ n3_ n4_ n5_ n6_ n7_ n8_ n9_; clear hb hbox hg; have qDw := qfT.out; have qDx := qcV.out; have qpb := qfU.out; have qpc := qcW.out; have qi7 : w37.cell? ⟨qa7, 0, none⟩ = some (.int .i64 0) := (qai qbd.out 0).trans rfl; have qi8 : w37.cell? ⟨qa7, 1, none⟩ = some (.int .i64 0) := (qai qbd.out 1).trans rfl; have qkk : w37.cell? ⟨qa7, 2, none⟩ = some (.int .i64 0) := (qai qbd.out 2).trans rfl; have qst : w37.cell? ⟨qa7, 3, none⟩ = some (.int .i64 0) := (qai qbd.out 3).trans rfl; have qsu : w37.cell? ⟨qa7, 4, none⟩ = some (.int .i64 0) := (qai qbd.out 4).trans rfl; have qsv : w37.cell? ⟨qa7, 5, none⟩ = some (.int .i64 0) := (qai qbd.out 5).trans rfl; have qi9 := qaj qbd.out 0; have qja := qaj qbd.out 1; have qkl := qaj qbd.out 2; have qsw := qaj qbd.out 3; have qsx := qaj qbd.out 4; have qsy := qaj qbd.out 5))
        go_loopg [13, 60] kj22 (fun kq v13 v60 w' => ∃ (qdO : List Int) (qcG : Int) (qcx : Int) (qcp : Int) (qcj : Int) (qcb : Int) (qb9 : Int) (qb0 : Int), v60 = .int .i64 qcG ∧ qaa (qaP.l1 kq l1 l2 qdO (l1.length : Int) qcG l0_0 l0_1 l0_2 a0_3 a0_4 qcx qcp qcj qcb qb9 qb0 = some (r1, r2)) ∧ qaa (kq ≤ kj22) ∧ qaa (Kd.R (Kd.int .i64) 3 w' w.heap.size (fun k_ => (w.heap.size ≤ k_)) v13 qdO) ∧ qaa (w'.heap[qct]? = some (.cells #[(.slice A0_0 l0_0.length c0_0), (.slice A0_1 l0_1.length c0_1), (.slice A0_2 l0_2.length c0_2), .int .i64 a0_3, .int .i64 a0_4] 39 (0, 0))) ∧ qaa (w'.heap[qbt]? = some (.cells #[(.slice A0_0 l0_0.length c0_0), (.slice A0_1 l0_1.length c0_1), (.slice A0_2 l0_2.length c0_2), .int .i64 a0_3, .int .i64 a0_4] 111 (0, 0))) ∧ qaa (w'.heap[qa7]? = some (.cells #[.int .i64 qcx, .int .i64 qcp, .int .i64 qcj, .int .i64 qcb, .int .i64 qb9, .int .i64 qb0] 115 (0, 0))) ∧ qaa (Below w.heap.size w w'))
        case atStart => exact ⟨(([] : List Int)), (0), (t162), (t163), (t164), (t165), (t166), (t167), (by first | rfl | (simp; done) | (simp [*]; done)), H', ⟨Nat.le_refl _⟩, ⟨by first | exact Kd.R_nil _ _ _ _ _ | exact Kd.N_nil _ _ _ _ _ | exact Kd.V_nil _ _ _ _ _ | exact Kd.Q_nil _ _ _ _ _ | exact Kd.S_nil _ _ _ _ _⟩, ⟨by (with_reducible repeat (first | refine qac ?_ _ | refine qae ?_ | refine qab ?_ _)); refine qao ?_ qcV.out _; (with_reducible repeat (first | refine qac ?_ _ | refine qae ?_ | refine qab ?_ _)); refine qao ?_ qcV.out _; (with_reducible repeat (first | refine qac ?_ _ | refine qae ?_ | refine qab ?_ _)); refine qao ?_ qcV.out _; (with_reducible repeat (first | refine qac ?_ _ | refine qae ?_ | refine qab ?_ _)); refine qao ?_ qcV.out _; (with_reducible repeat (first | refine qac ?_ _ | refine qae ?_ | refine qab ?_ _)); refine qao ?_ qcV.out _; (with_reducible repeat (first | refine qac ?_ _ | refine qae ?_ | refine qab ?_ _)); refine qao ?_ qcV.out _; (with_reducible repeat (first | refine qac ?_ _ | refine qae ?_ | refine qab ?_ _)); exact qbl.out⟩, ⟨by (with_reducible repeat (first | refine qac ?_ _ | refine qae ?_ | refine qab ?_ _)); refine qao ?_ qcW.out _; (with_reducible repeat (first | refine qac ?_ _ | refine qae ?_ | refine qab ?_ _)); refine qao ?_ qcW.out _; (with_reducible repeat (first | refine qac ?_ _ | refine qae ?_ | refine qab ?_ _)); refine qao ?_ qcW.out _; (with_reducible repeat (first | refine qac ?_ _ | refine qae ?_ | refine qab ?_ _)); refine qao ?_ qcW.out _; (with_reducible repeat (first | refine qac ?_ _ | refine qae ?_ | refine qab ?_ _)); refine qao ?_ qcW.out _; (with_reducible repeat (first | refine qac ?_ _ | refine qae ?_ | refine qab ?_ _)); refine qao ?_ qcW.out _; (with_reducible repeat (first | refine qac ?_ _ | refine qae ?_ | refine qab ?_ _)); exact qaL.out⟩, ⟨by (with_reducible repeat (first | refine qac ?_ _ | refine qae ?_ | refine qab ?_ _)); refine qaw (cs := #[.int .i64 t162, .int .i64 t163, .int .i64 t164, .int .i64 t165, .int .i64 t166, .int .i64 0]) ?_ 5 _ rfl; (with_reducible repeat (first | refine qac ?_ _ | refine qae ?_ | refine qab ?_ _)); refine qaw (cs := #[.int .i64 t162, .int .i64 t163, .int .i64 t164, .int .i64 t165, .int .i64 0, .int .i64 0]) ?_ 4 _ rfl; (with_reducible repeat (first | refine qac ?_ _ | refine qae ?_ | refine qab ?_ _)); refine qaw (cs := #[.int .i64 t162, .int .i64 t163, .int .i64 t164, .int .i64 0, .int .i64 0, .int .i64 0]) ?_ 3 _ rfl; (with_reducible repeat (first | refine qac ?_ _ | refine qae ?_ | refine qab ?_ _)); refine qaw (cs := #[.int .i64 t162, .int .i64 t163, .int .i64 0, .int .i64 0, .int .i64 0, .int .i64 0]) ?_ 2 _ rfl; (with_reducible repeat (first | refine qac ?_ _ | refine qae ?_ | refine qab ?_ _)); refine qaw (cs := #[.int .i64 t162, .int .i64 0, .int .i64 0, .int .i64 0, .int .i64 0, .int .i64 0]) ?_ 1 _ rfl; (with_reducible repeat (first | refine qac ?_ _ | refine qae ?_ | refine qab ?_ _)); refine qaw (cs := #[.int .i64 0, .int .i64 0, .int .i64 0, .int .i64 0, .int .i64 0, .int .i64 0]) ?_ 0 _ rfl; (with_reducible repeat (first | refine qac ?_ _ | refine qae ?_ | refine qab ?_ _)); exact qbd.out⟩, ⟨by repeat (first | (with_reducible first | exact HB.out | apply qaf | apply qad | apply qah | refine qag ?_ qcu.out | refine qag ?_ qcB.out | refine qag ?_ qfb.out) | exact HB.out)⟩⟩
        case round =>
         clear H'; (try clear c1); (try clear p1); (try clear q1); (try clear hx1); (try clear c2); (try clear p2); (try clear c3); (try clear c6); (try clear p6); (try clear c7); (try clear c8); (try clear c11); (try clear c13); (try clear c14); (try clear p15); (try clear q15); (try clear hx15); (try clear p16); (try clear q16); (try clear hx16); (try clear c17); (try clear c20); (try clear c24); (try clear c25); (try clear c26); (try clear c26b0); (try clear c27); (try clear c27b0); (try clear c29); (try clear c30); (try clear c30b0); (try clear c32); (try clear c34); (try clear c38); (try clear c39); (try clear qgo); (try clear qgp); (try clear qg0); (try clear qg1); (try clear qg2); (try clear qgM); (try clear qgN); (try clear qgO); (try clear qkb); (try clear qkc); (try clear qgd); (try clear qge); (try clear qgf); (try clear qkf); (try clear qkg); (try clear qmc); (try clear qmd); (try clear qsn); (try clear qso); (try clear qsp); (try clear qi7); (try clear qi8); (try clear qkk); (try clear qst); (try clear qsu); (try clear qsv); (try clear qiq); (try clear qir); (try clear qi5); (try clear qle); (try clear qlf); (try clear qeA); (try clear qeB); (try clear qeN); (try clear qli); (try clear qlj); (try clear qgq); (try clear qgr); (try clear qg3); (try clear qg4); (try clear qg5); (try clear qgP); (try clear qgQ); (try clear qgR); (try clear qkd); (try clear qke); (try clear qgg); (try clear qgh); (try clear qgi); (try clear qkh); (try clear qki); (try clear qme); (try clear qmf); (try clear qsq); (try clear qsr); (try clear qss); (try clear qi9); (try clear qja); (try clear qkl); (try clear qsw); (try clear qsx); (try clear qsy); (try clear qis); (try clear qit); (try clear qi6); (try clear qlg); (try clear qlh); (try clear qeC); (try clear qeD); (try clear qeO); (try clear qlk); (try clear qll); (try clear qg6); (try clear qkj); (try clear p158); (try clear p160); (try clear p2); (try clear q158); (try clear q160); obtain ⟨qdO, qcG, qcx, qcp, qcj, qcb, qb9, qb0, rfl, HA, HK4, HO_13, qbl, qaL, qbd, HB⟩ := hrel
         cases gk with
         | zero => exact absurd HA.out (by simp [qaP.l1])
         | succ k4 =>
          have H := HA.out; clear HA; simp only [qaP.l1] at H
          by_cases c41 : qcG < (l1.length : Int)
          ·
           rw [if_pos c41] at H; have c41b0 : decide (qcG < (l1.length : Int)) = true := decide_eq_true c41; clear c41
           by_cases c42 : 0 ≤ qcG
           ·
            rw [if_pos c42] at H; have c42b0 : decide (0 ≤ qcG) = true := decide_eq_true c42; clear c42
            by_cases c43 : qcG < (l1.length : Int)
            ·
             rw [if_pos c43] at H; have c43b0 : decide (qcG < (l1.length : Int)) = true := decide_eq_true c43; clear c43
             by_cases c44 : qcG < (l2.length : Int)
             ·
              rw [if_pos c44] at H; have c44b0 : decide (qcG < (l2.length : Int)) = true := decide_eq_true c44; clear c44; replace H := Option.bind_eq_some_iff.mp H; obtain ⟨⟨t171, t172, t173, t174, t175, t176, t177⟩, A450, H⟩ := H; replace H : (if qdO.length < 17592186044416 then (qaP.l1 k4 l1 l2 (qdO ++ [t171]) (l1.length : Int) (wrap64 (qcG + 1)) l0_0 l0_1 l0_2 a0_3 a0_4 t172 t173 t174 t175 t176 t177) else (none)) = some (r1, r2) := H; have A45 := qaa.mk A450; clear A450
              by_cases c46 : qdO.length < 17592186044416
              ·
               rw [if_pos c46] at H; have quB := qaa.mk c46; clear c46; obtain ⟨y179, qln⟩ : ∃ y_ : List Int, y_ = (qdO ++ [t171]) := ⟨_, rfl⟩
               replace H : (qaP.l1 k4 l1 l2 y179 (l1.length : Int) (wrap64 (qcG + 1)) l0_0 l0_1 l0_2 a0_3 a0_4 t172 t173 t174 t175 t176 t177) = some (r1, r2) := by first | (rw [qln]; with_reducible exact H) | (have H2_ := (Option.bind_some _ _).symm.trans H; rw [qln]; with_reducible exact H2_) | (have H2_ := (Option.bind_some _ _).symm.trans H; with_reducible exact H2_) | with_reducible exact H | (rw [qln]; exact H) | exact H
               have quC := qaa.mk qln; clear qln; have H' := qaa.mk H; clear H
               try go_wp2
               have n0_ := qaa.mk (Kd.R_drew HO_13.out); have n1_ := qaa.mk (qae qbl.out); have n2_ := qaa.mk (qae qaL.out); have n3_ := qaa.mk (qae qbd.out); have n4_ := qaa.mk (qah HB.out); clear HO_13 qbl qaL qbd HB; have HO_13 := n0_; have qbl := n1_; have qaL := n2_; have qbd := n3_; have HB := n4_; clear n0_ n1_ n2_ n3_ n4_; have p169 : 0 ≤ (qcG : Int) := of_decide_eq_true (by first | (with_reducible assumption) | assumption); have q169 : qcG < (l1.length : Int) := of_decide_eq_true (by first | (with_reducible assumption) | assumption); obtain ⟨qpm, e169, qjb⟩ := Kd.at_int HR1.out qcG p169 q169; have qce := qjb; cases e169; replace qjb := (HB.out.cell (World.block_lt_of_cell? w _ qjb)).trans qjb; replace p169 := eq_true p169; replace q169 := eq_true q169; have p170 : 0 ≤ (qcG : Int) := of_decide_eq_true (by first | (with_reducible assumption) | assumption); have q170 : qcG < (l2.length : Int) := of_decide_eq_true (by first | (with_reducible assumption) | assumption); obtain ⟨qpn, e170, qjc⟩ := Kd.at_int HR2.out qcG p170 q170; have qcf := qjc; cases e170; replace qjc := (HB.out.cell (World.block_lt_of_cell? w _ qjc)).trans qjc; replace p170 := eq_true p170; replace q170 := eq_true q170; refine qgB (n := 18) (S := fun w' => w'.cell? ⟨qbt, 0, none⟩ = some (.slice A0_0 l0_0.length c0_0) ∧ w'.cell? ⟨qbt, 1, none⟩ = some (.slice A0_1 l0_1.length c0_1) ∧ w'.cell? ⟨qbt, 2, none⟩ = some (.slice A0_2 l0_2.length c0_2) ∧ w'.cell? ⟨qbt, 3, none⟩ = some (.int .i64 a0_3) ∧ w'.cell? ⟨qbt, 4, none⟩ = some (.int .i64 a0_4) ∧ w'.cell? ⟨qa7, 0, none⟩ = some (.int .i64 qcx) ∧ w'.cell? ⟨qa7, 1, none⟩ = some (.int .i64 qcp) ∧ w'.cell? ⟨qa7, 2, none⟩ = some (.int .i64 qcj) ∧ w'.cell? ⟨qa7, 3, none⟩ = some (.int .i64 qcb) ∧ w'.cell? ⟨qa7, 4, none⟩ = some (.int .i64 qb9) ∧ w'.cell? ⟨qa7, 5, none⟩ = some (.int .i64 qb0) ∧ w'.cell? (qpm.add (qcG).toNat) = some (.int .i64 (rd l1 qcG)) ∧ w'.cell? (qpn.add (qcG).toNat) = some (.int .i64 (rd l2 qcG))) (ds := []) #[false, false, false, false, false, false, false, false, false, false, false, false, false, false, false, false, false, false] (by kernel_rfl) rfl rfl ⟨(qai qaL.out 0).trans rfl, (qai qaL.out 1).trans rfl, (qai qaL.out 2).trans rfl, (qai qaL.out 3).trans rfl, (qai qaL.out 4).trans rfl, (qai qbd.out 0).trans rfl, (qai qbd.out 1).trans rfl, (qai qbd.out 2).trans rfl, (qai qbd.out 3).trans rfl, (qai qbd.out 4).trans rfl, (qai qbd.out 5).trans rfl, ((HB.out.cell (World.block_lt_of_cell? w _ qce)).trans qce), ((HB.out.cell (World.block_lt_of_cell? w _ qcf)).trans qcf)⟩ (fun hHeld => ?_); refine qe5 qaP.tab15 qaP.bits15 (fun HT_ HW_ => ?_)
               generalize wr.drew = w47 at HO_13 qbl qaL qbd HB qjb qjc hHeld ⊢
               refine qbp (i := 0) (N := some 64) (v := ?_) (a' := ?_) #[true, false, false, false, false, false, false, false, false, false, false, false, false, false, false, false, false, false] rfl rfl (qbe HT_.out (by kernel_rfl)) (fun _ _ _ h => h) (Or.inl ⟨by rfl, ?_⟩) ?_ ?_
               rotate_left
               ·
                intro w'
                go_simp
                with_reducible rfl
               rotate_left
               ·
                simp only [Act.put, List.setIfInBounds_toArray, List.set_cons_zero, List.set_cons_succ, qaM, qaR]
                rfl
               refine qbp (i := 3) (N := some 67) (v := ?_) (a' := ?_) #[true, false, false, true, false, false, false, false, false, false, false, false, false, false, false, false, false, false] rfl rfl (qbe HT_.out (by kernel_rfl)) (fun _ _ _ h => h) (Or.inl ⟨by rfl, ?_⟩) ?_ ?_
               rotate_left
               ·
                intro w'
                go_simp
                with_reducible rfl
               rotate_left
               ·
                simp only [Act.put, List.setIfInBounds_toArray, List.set_cons_zero, List.set_cons_succ, qaM, qaR]
                rfl
               refine qbp (i := 4) (N := some 68) (v := ?_) (a' := ?_) #[true, false, false, true, true, false, false, false, false, false, false, false, false, false, false, false, false, false] rfl rfl (qbe HT_.out (by kernel_rfl)) (fun _ _ _ h => h) (Or.inl ⟨by rfl, ?_⟩) ?_ ?_
               rotate_left
               ·
                intro w'
                go_simp
                with_reducible rfl
               rotate_left
               ·
                simp only [Act.put, List.setIfInBounds_toArray, List.set_cons_zero, List.set_cons_succ, qaM, qaR]
                rfl
               refine qbp (i := 5) (N := some 69) (v := ?_) (a' := ?_) #[true, false, false, true, true, true, false, false, false, false, false, false, false, false, false, false, false, false] rfl rfl (qbe HT_.out (by kernel_rfl)) (fun _ _ _ h => h) (Or.inl ⟨by rfl, ?_⟩) ?_ ?_
               rotate_left
               ·
                intro w'
                go_simp
                with_reducible rfl
               rotate_left
               ·
                simp only [Act.put, List.setIfInBounds_toArray, List.set_cons_zero, List.set_cons_succ, qaM, qaR]
                rfl
               refine qbp (i := 7) (N := some 71) (v := ?_) (a' := ?_) #[true, false, false, true, true, true, false, true, false, false, false, false, false, false, false, false, false, false] rfl rfl (qbe HT_.out (by kernel_rfl)) (fun _ _ _ h => h) (Or.inl ⟨by rfl, ?_⟩) ?_ ?_
               rotate_left
               ·
                intro w'
                go_simp
                with_reducible rfl
               rotate_left
               ·
                simp only [Act.put, List.setIfInBounds_toArray, List.set_cons_zero, List.set_cons_succ, qaM, qaR]
                rfl
               refine qbp (i := 8) (N := some 72) (v := ?_) (a' := ?_) #[true, false, false, true, true, true, false, true, true, false, false, false, false, false, false, false, false, false] rfl rfl (qbe HT_.out (by kernel_rfl)) (fun _ _ _ h => h) (Or.inl ⟨by rfl, ?_⟩) ?_ ?_
               rotate_left
               ·
                intro w'
                go_simp
                with_reducible rfl
               rotate_left
               ·
                simp only [Act.put, List.setIfInBounds_toArray, List.set_cons_zero, List.set_cons_succ, qaM, qaR]
                rfl
               refine qbp (i := 9) (N := some 73) (v := ?_) (a' := ?_) #[true, false, false, true, true, true, false, true, true, true, false, false, false, false, false, false, false, false] rfl rfl (qbe HT_.out (by kernel_rfl)) (fun _ _ _ h => h) (Or.inl ⟨by rfl, ?_⟩) ?_ ?_
               rotate_left
               ·
                intro w'
                go_simp
                with_reducible rfl
               rotate_left
               ·
                simp only [Act.put, List.setIfInBounds_toArray, List.set_cons_zero, List.set_cons_succ, qaM, qaR]
                rfl
               refine take_ (i := 1) (N := some 65) (v := ?_) (a' := ?_) #[true, true, false, true, true, true, false, true, true, true, false, false, false, false, false, false, false, false] rfl rfl (qcJ HT_.out HW_.out (by kernel_rfl)) (fun _ _ _ h => h) (Or.inl ⟨by rfl, ?_⟩) hHeld ?_ ?_
               rotate_left
               ·
                rintro w' ⟨s0, s1, s2, s3, s4, s5, s6, s7, s8, s9, s10, s11, s12⟩
                go_simp
                with_reducible rfl
               rotate_left
               ·
                simp only [Act.put, List.setIfInBounds_toArray, List.set_cons_zero, List.set_cons_succ, qaM, qaR]
                rfl
               refine take_ (i := 2) (N := some 66) (v := ?_) (a' := ?_) #[true, true, true, true, true, true, false, true, true, true, false, false, false, false, false, false, false, false] rfl rfl (qcJ HT_.out HW_.out (by kernel_rfl)) (fun _ _ _ h => h) (Or.inl ⟨by rfl, ?_⟩) hHeld ?_ ?_
               rotate_left
               ·
                rintro w' ⟨s0, s1, s2, s3, s4, s5, s6, s7, s8, s9, s10, s11, s12⟩
                go_simp
                with_reducible rfl
               rotate_left
               ·
                simp only [Act.put, List.setIfInBounds_toArray, List.set_cons_zero, List.set_cons_succ, qaM, qaR]
                rfl
               refine take_ (i := 6) (N := some 70) (v := ?_) (a' := ?_) #[true, true, true, true, true, true, true, true, true, true, false, false, false, false, false, false, false, false] rfl rfl (qcJ HT_.out HW_.out (by kernel_rfl)) (fun _ _ _ h => h) (Or.inl ⟨by rfl, ?_⟩) hHeld ?_ ?_
               rotate_left
               ·
                rintro w' ⟨s0, s1, s2, s3, s4, s5, s6, s7, s8, s9, s10, s11, s12⟩
                go_simp
                with_reducible rfl
               rotate_left
               ·
                simp only [Act.put, List.setIfInBounds_toArray, List.set_cons_zero, List.set_cons_succ, qaM, qaR]
                rfl
               refine take_ (i := 10) (N := some 74) (v := ?_) (a' := ?_) #[true, true, true, true, true, true, true, true, true, true, true, false, false, false, false, false, false, false] rfl rfl (qcJ HT_.out HW_.out (by kernel_rfl)) (fun _ _ _ h => h) (Or.inl ⟨by rfl, ?_⟩) hHeld ?_ ?_
               rotate_left
               ·
                rintro w' ⟨s0, s1, s2, s3, s4, s5, s6, s7, s8, s9, s10, s11, s12⟩
                go_simp
                with_reducible rfl
               rotate_left
               ·
                simp only [Act.put, List.setIfInBounds_toArray, List.set_cons_zero, List.set_cons_succ, qaM, qaR]
                rfl
               refine qqq (σ := Nat) 2 #[true, true, true, true, true, true, true, true, true, true, true, true, true, true, true, true, false, false] (fun s_ => [(75, .tuple #[.int .i64 t171, .agg #[.int .i64 t172, .int .i64 t173, .int .i64 t174, .int .i64 t175, .int .i64 t176, .int .i64 t177]]), (16, .pointer (some ⟨s_, 0, none⟩)), (63, .tuple #[.int .i64 t171, .agg #[.int .i64 t172, .int .i64 t173, .int .i64 t174, .int .i64 t175, .int .i64 t176, .int .i64 t177]]), (76, .int .i64 t171), (77, .agg #[.int .i64 t172, .int .i64 t173, .int .i64 t174, .int .i64 t175, .int .i64 t176, .int .i64 t177])]) (fun s_ w' => (w'.cell? ⟨qbt, 0, none⟩ = some (.slice A0_0 l0_0.length c0_0) ∧ w'.cell? ⟨qbt, 1, none⟩ = some (.slice A0_1 l0_1.length c0_1) ∧ w'.cell? ⟨qbt, 2, none⟩ = some (.slice A0_2 l0_2.length c0_2) ∧ w'.cell? ⟨qbt, 3, none⟩ = some (.int .i64 a0_3) ∧ w'.cell? ⟨qbt, 4, none⟩ = some (.int .i64 a0_4) ∧ w'.cell? ⟨qa7, 0, none⟩ = some (.int .i64 qcx) ∧ w'.cell? ⟨qa7, 1, none⟩ = some (.int .i64 qcp) ∧ w'.cell? ⟨qa7, 2, none⟩ = some (.int .i64 qcj) ∧ w'.cell? ⟨qa7, 3, none⟩ = some (.int .i64 qcb) ∧ w'.cell? ⟨qa7, 4, none⟩ = some (.int .i64 qb9) ∧ w'.cell? ⟨qa7, 5, none⟩ = some (.int .i64 qb0) ∧ w'.cell? (qpm.add (qcG).toNat) = some (.int .i64 (rd l1 qcG)) ∧ w'.cell? (qpn.add (qcG).toNat) = some (.int .i64 (rd l2 qcG))) ∧ (Kd.R (Kd.int .i64) 3 w' w.heap.size (fun k_ => (w.heap.size ≤ k_)) u13 qdO) ∧ (w'.heap[qct]? = some (.cells #[.slice A0_0 l0_0.length c0_0, .slice A0_1 l0_1.length c0_1, .slice A0_2 l0_2.length c0_2, .int .i64 a0_3, .int .i64 a0_4] 39 (0, 0))) ∧ (w'.heap[qbt]? = some (.cells #[.slice A0_0 l0_0.length c0_0, .slice A0_1 l0_1.length c0_1, .slice A0_2 l0_2.length c0_2, .int .i64 a0_3, .int .i64 a0_4] 111 (0, 0))) ∧ (w'.heap[qa7]? = some (.cells #[.int .i64 qcx, .int .i64 qcp, .int .i64 qcj, .int .i64 qcb, .int .i64 qb9, .int .i64 qb0] 115 (0, 0))) ∧ (w'.heap[s_]? = some (.cells #[.int .i64 0, .int .i64 0, .int .i64 0, .int .i64 0, .int .i64 0, .int .i64 0] 115 (0, 0))) ∧ (w.heap.size ≤ s_) ∧ (w.heap.size ≤ s_) ∧ (qct ≠ s_) ∧ (s_ ≠ qct) ∧ (qbt ≠ s_) ∧ (s_ ≠ qbt) ∧ (qa7 ≠ s_) ∧ (s_ ≠ qa7) ∧ (Below w.heap.size w w')) ?_ ?_
               rotate_left
               ·
                intro hCont; refine two_ (i := 11) (j := 15) (Ni := some 75) (Nj := some 16) #[true, true, true, true, true, true, true, true, true, true, true, true, false, false, false, false, false, false] #[true, true, true, true, true, true, true, true, true, true, true, false, false, false, false, true, false, false] rfl rfl rfl rfl (qpT HT_.out (by kernel_rfl)) (by decide) (by decide) (fun K hK => ?_) (fun K hK => ?_)
                ·
                 skip
                 refine qkY Try.func77 (by kernel_rfl) rfl #[.agg #[.slice A0_0 l0_0.length c0_0, .slice A0_1 l0_1.length c0_1, .slice A0_2 l0_2.length c0_2, .int .i64 a0_3, .int .i64 a0_4], .agg #[.int .i64 qcx, .int .i64 qcp, .int .i64 qcj, .int .i64 qcb, .int .i64 qb9, .int .i64 qb0], .int .i64 (rd l1 qcG), .int .i64 (rd l2 qcG)] 64 (by rfl) rfl rfl rfl (by (try simp only [List.map_toArray, List.map_cons, List.map_nil]); first | done | rfl | (simp only [List.length_drop, List.length_take]; rfl)) ?_
                 with_reducible refine (qcD.calls _ _ l0_0 _ _ l0_1 _ _ l0_2 a0_3 a0_4 qcx qcp qcj qcb qb9 qb0 (rd l1 qcG) (rd l2 qcG) t171 t172 t173 t174 t175 t176 t177 _ ?side1 ?side2 ?side3 ?side4 ?side5 ?side6 A45.out).mono ?_
                 (case side1 => repeat (first | exact (Kd.C_below qda.out HB.out) | (with_reducible refine Kd.C_alloc ?_ _) | (with_reducible refine Kd.C_drewN ?_ _) | (with_reducible refine Kd.C_drew ?_)))
                 (case side2 => exact qdt.out)
                 (case side3 => repeat (first | exact (Kd.C_below qde.out HB.out) | (with_reducible refine Kd.C_alloc ?_ _) | (with_reducible refine Kd.C_drewN ?_ _) | (with_reducible refine Kd.C_drew ?_)))
                 (case side4 => exact qdu.out)
                 (case side5 => repeat (first | exact (Kd.C_below qdf.out HB.out) | (with_reducible refine Kd.C_alloc ?_ _) | (with_reducible refine Kd.C_drewN ?_ _) | (with_reducible refine Kd.C_drew ?_)))
                 (case side6 => exact qdv.out)
                 rintro e w48 ⟨rfl, hb⟩; refine ⟨_, rfl, ?_⟩; have n0_ := qaa.mk (Kd.R_below (by (with_reducible repeat (first | apply Kd.R_alloc | apply Kd.R_drewN | apply Kd.R_drew)); exact HO_13.out) hb); have n1_ := qaa.mk (qan (g := qct) (o := .cells #[.slice A0_0 l0_0.length c0_0, .slice A0_1 l0_1.length c0_1, .slice A0_2 l0_2.length c0_2, .int .i64 a0_3, .int .i64 a0_4] 39 (0, 0)) (by (with_reducible repeat (first | refine qac ?_ _ | refine qae ?_ | refine qab ?_ _)); exact qbl.out) hb); have n2_ := qaa.mk (qan (g := qbt) (o := .cells #[.slice A0_0 l0_0.length c0_0, .slice A0_1 l0_1.length c0_1, .slice A0_2 l0_2.length c0_2, .int .i64 a0_3, .int .i64 a0_4] 111 (0, 0)) (by (with_reducible repeat (first | refine qac ?_ _ | refine qae ?_ | refine qab ?_ _)); exact qaL.out) hb); have n3_ := qaa.mk (qan (g := qa7) (o := .cells #[.int .i64 qcx, .int .i64 qcp, .int .i64 qcj, .int .i64 qcb, .int .i64 qb9, .int .i64 qb0] 115 (0, 0)) (by (with_reducible repeat (first | refine qac ?_ _ | refine qae ?_ | refine qab ?_ _)); exact qbd.out) hb); have n4_ := qaa.mk (qar (by repeat (first | (with_reducible first | exact HB.out | apply qaf | apply qad | apply qah | refine qag ?_ qcu.out | refine qag ?_ qcB.out | refine qag ?_ qfb.out) | exact HB.out)) hb); clear HO_13 qbl qaL qbd HB; have HO_13 := n0_; have qbl := n1_; have qaL := n2_; have qbd := n3_; have HB := n4_; clear n0_ n1_ n2_ n3_ n4_
                 (try clear hb)
                 (try clear hb2)
                 (try clear hk)
                 (try clear hi)
                 refine hK.out _ _ ⟨(qai qaL.out 0).trans rfl, (qai qaL.out 1).trans rfl, (qai qaL.out 2).trans rfl, (qai qaL.out 3).trans rfl, (qai qaL.out 4).trans rfl, (qai qbd.out 0).trans rfl, (qai qbd.out 1).trans rfl, (qai qbd.out 2).trans rfl, (qai qbd.out 3).trans rfl, (qai qbd.out 4).trans rfl, (qai qbd.out 5).trans rfl, ((HB.out.cell (World.block_lt_of_cell? w _ qce)).trans qce), ((HB.out.cell (World.block_lt_of_cell? w _ qcf)).trans qcf)⟩ (fun hHeld => ?_); clear hK K; refine qd7 (a' := ?_) ?_ ?_
                 rotate_left
                 ·
                  show Act.put _ (some 75) _ = _
                  simp only [Act.put, List.setIfInBounds_toArray, List.set_cons_zero, List.set_cons_succ, qaM, qaR]
                  rfl
                 refine qbp (i := 12) (N := some 63) (v := ?_) (a' := ?_) #[true, true, true, true, true, true, true, true, true, true, true, true, true, false, false, false, false, false] rfl rfl (qbe HT_.out (by kernel_rfl)) (fun _ _ _ h => h) (Or.inl ⟨by rfl, ?_⟩) ?_ ?_
                 rotate_left
                 ·
                  intro w'
                  go_simp
                  with_reducible rfl
                 rotate_left
                 ·
                  simp only [Act.put, List.setIfInBounds_toArray, List.set_cons_zero, List.set_cons_succ, qaM, qaR]
                  rfl
                 refine qbp (i := 13) (N := some 76) (v := ?_) (a' := ?_) #[true, true, true, true, true, true, true, true, true, true, true, true, true, true, false, false, false, false] rfl rfl (qbe HT_.out (by kernel_rfl)) (fun _ _ _ h => h) (Or.inl ⟨by rfl, ?_⟩) ?_ ?_
                 rotate_left
                 ·
                  intro w'
                  go_simp
                  with_reducible rfl
                 rotate_left
                 ·
                  simp only [Act.put, List.setIfInBounds_toArray, List.set_cons_zero, List.set_cons_succ, qaM, qaR]
                  rfl
                 refine qbp (i := 14) (N := some 77) (v := ?_) (a' := ?_) #[true, true, true, true, true, true, true, true, true, true, true, true, true, true, true, false, false, false] rfl rfl (qbe HT_.out (by kernel_rfl)) (fun _ _ _ h => h) (Or.inl ⟨by rfl, ?_⟩) ?_ ?_
                 rotate_left
                 ·
                  intro w'
                  go_simp
                  with_reducible rfl
                 rotate_left
                 ·
                  simp only [Act.put, List.setIfInBounds_toArray, List.set_cons_zero, List.set_cons_succ, qaM, qaR]
                  rfl
                 refine one_ (i := 15) (N := some 16) #[true, true, true, true, true, true, true, true, true, true, true, true, true, true, true, true, false, false] rfl rfl (qeg HT_.out (by kernel_rfl)) (by decide) (fun K hK => ?_); refine qjA ?hg (N := 16) ?hd (cs := #[.int .i64 0, .int .i64 0, .int .i64 0, .int .i64 0, .int .i64 0, .int .i64 0]) (t := 115) ?hr ?_; (case hd => rfl); (case hg => rfl); (case hr => first | (go_simp; done) | (go_simp; rfl)); intro qaC hg w49 hbox hb; have n0_ := qaa.mk (Kd.R_below (by (with_reducible repeat (first | apply Kd.R_alloc | apply Kd.R_drewN | apply Kd.R_drew)); exact HO_13.out) hb); have n1_ := qaa.mk (qan (g := qct) (o := .cells #[.slice A0_0 l0_0.length c0_0, .slice A0_1 l0_1.length c0_1, .slice A0_2 l0_2.length c0_2, .int .i64 a0_3, .int .i64 a0_4] 39 (0, 0)) (by (with_reducible repeat (first | refine qac ?_ _ | refine qae ?_ | refine qab ?_ _)); exact qbl.out) hb); have n2_ := qaa.mk (qan (g := qbt) (o := .cells #[.slice A0_0 l0_0.length c0_0, .slice A0_1 l0_1.length c0_1, .slice A0_2 l0_2.length c0_2, .int .i64 a0_3, .int .i64 a0_4] 111 (0, 0)) (by (with_reducible repeat (first | refine qac ?_ _ | refine qae ?_ | refine qab ?_ _)); exact qaL.out) hb); have n3_ := qaa.mk (qan (g := qa7) (o := .cells #[.int .i64 qcx, .int .i64 qcp, .int .i64 qcj, .int .i64 qcb, .int .i64 qb9, .int .i64 qb0] 115 (0, 0)) (by (with_reducible repeat (first | refine qac ?_ _ | refine qae ?_ | refine qab ?_ _)); exact qbd.out) hb); have n4_ := qaa.mk (qar (by repeat (first | (with_reducible first | exact HB.out | apply qaf | apply qad | apply qah | refine qag ?_ qcu.out | refine qag ?_ qcB.out | refine qag ?_ qfb.out) | exact HB.out)) hb); have n5_ := qaa.mk (hbox); have n6_ := qaa.mk ((by rw [hg]; exact (qam (by repeat (first | (with_reducible first | exact HB.out | apply qaf | apply qad | apply qah | refine qag ?_ qcu.out | refine qag ?_ qcB.out | refine qag ?_ qfb.out) | exact HB.out))) : w.heap.size ≤ qaC)); have n7_ := qaa.mk ((by rw [hg]; exact (qam (by repeat (first | (with_reducible first | exact HB.out | apply qaf | apply qad | apply qah | refine qag ?_ qcu.out | refine qag ?_ qcB.out | refine qag ?_ qfb.out) | exact HB.out))) : w.heap.size ≤ qaC)); have n8_ := qaa.mk ((by rw [hg]; exact Nat.ne_of_lt (qaA (g := qct) (o := .cells #[.slice A0_0 l0_0.length c0_0, .slice A0_1 l0_1.length c0_1, .slice A0_2 l0_2.length c0_2, .int .i64 a0_3, .int .i64 a0_4] 39 (0, 0)) (by (with_reducible repeat (first | refine qac ?_ _ | refine qae ?_ | refine qab ?_ _)); exact qbl.out)) : qct ≠ qaC)); have n9_ := qaa.mk ((by rw [hg]; exact Nat.ne_of_gt (qaA (g := qct) (o := .cells #[.slice A0_0 l0_0.length c0_0, .slice A0_1 l0_1.length c0_1, .slice A0_2 l0_2.length c0_2, .int .i64 a0_3, .int .i64 a0_4] 39 (0, 0)) (by (with_reducible repeat (first | refine qac ?_ _ | refine qae ?_ | refine qab ?_ _)); exact qbl.out)) : qaC ≠ qct)); have n10_ := qaa.mk ((by rw [hg]; exact Nat.ne_of_lt (qaA (g := qbt) (o := .cells #[.slice A0_0 l0_0.length c0_0, .slice A0_1 l0_1.length c0_1, .slice A0_2 l0_2.length c0_2, .int .i64 a0_3, .int .i64 a0_4] 111 (0, 0)) (by (with_reducible repeat (first | refine qac ?_ _ | refine qae ?_ | refine qab ?_ _)); exact qaL.out)) : qbt ≠ qaC)); have n11_ := qaa.mk ((by rw [hg]; exact Nat.ne_of_gt (qaA (g := qbt) (o := .cells #[.slice A0_0 l0_0.length c0_0, .slice A0_1 l0_1.length c0_1, .slice A0_2 l0_2.length c0_2, .int .i64 a0_3, .int .i64 a0_4] 111 (0, 0)) (by (with_reducible repeat (first | refine qac ?_ _ | refine qae ?_ | refine qab ?_ _)); exact qaL.out)) : qaC ≠ qbt)); have n12_ := qaa.mk ((by rw [hg]; exact Nat.ne_of_lt (qaA (g := qa7) (o := .cells #[.int .i64 qcx, .int .i64 qcp, .int .i64 qcj, .int .i64 qcb, .int .i64 qb9, .int .i64 qb0] 115 (0, 0)) (by (with_reducible repeat (first | refine qac ?_ _ | refine qae ?_ | refine qab ?_ _)); exact qbd.out)) : qa7 ≠ qaC)); have n13_ := qaa.mk ((by rw [hg]; exact Nat.ne_of_gt (qaA (g := qa7) (o := .cells #[.int .i64 qcx, .int .i64 qcp, .int .i64 qcj, .int .i64 qcb, .int .i64 qb9, .int .i64 qb0] 115 (0, 0)) (by (with_reducible repeat (first | refine qac ?_ _ | refine qae ?_ | refine qab ?_ _)); exact qbd.out)) : qaC ≠ qa7)); clear HO_13 qbl qaL qbd HB; have HO_13 := n0_; have qbl := n1_; have qaL := n2_; have qbd := n3_; have HB := n4_; have qcc := n5_; have qb2 := n6_; have qgE := n7_; have qdo := n8_; have qeG := n9_; have qbj := n10_; have qeH := n11_; have qa3 := n12_; have qba := n13_; clear n0_ n1_ n2_ n3_ n4_ n5_ n6_ n7_ n8_ n9_ n10_ n11_ n12_ n13_ hb hbox hg; refine hK.out _ _ ⟨(qai qaL.out 0).trans rfl, (qai qaL.out 1).trans rfl, (qai qaL.out 2).trans rfl, (qai qaL.out 3).trans rfl, (qai qaL.out 4).trans rfl, (qai qbd.out 0).trans rfl, (qai qbd.out 1).trans rfl, (qai qbd.out 2).trans rfl, (qai qbd.out 3).trans rfl, (qai qbd.out 4).trans rfl, (qai qbd.out 5).trans rfl, ((HB.out.cell (World.block_lt_of_cell? w _ qce)).trans qce), ((HB.out.cell (World.block_lt_of_cell? w _ qcf)).trans qcf)⟩ (fun hHeld => ?_); clear hK K; refine qd7 (a' := ?_) ?_ ?_
                 rotate_left
                 ·
                  show Act.put _ (some 16) _ = _
                  simp only [Act.put, List.setIfInBounds_toArray, List.set_cons_zero, List.set_cons_succ, qaM, qaR]
                  rfl
                 exact qd7 (by simp only [qhf, Act.put, List.setIfInBounds_toArray, List.set_cons_zero, List.set_cons_succ]) (hCont (qaC) _ ⟨hHeld, (by (with_reducible repeat (first | apply Kd.R_alloc | apply Kd.R_drewN | apply Kd.R_drew)); exact HO_13.out), (by (with_reducible repeat (first | refine qac ?_ _ | refine qae ?_ | refine qab ?_ _)); exact qbl.out), (by (with_reducible repeat (first | refine qac ?_ _ | refine qae ?_ | refine qab ?_ _)); exact qaL.out), (by (with_reducible repeat (first | refine qac ?_ _ | refine qae ?_ | refine qab ?_ _)); exact qbd.out), (by (with_reducible repeat (first | refine qac ?_ _ | refine qae ?_ | refine qab ?_ _)); exact qcc.out), qb2.out, qgE.out, qdo.out, qeG.out, qbj.out, qeH.out, qa3.out, qba.out, (by repeat (first | (with_reducible first | exact HB.out | apply qaf | apply qad | apply qah | refine qag ?_ qcu.out | refine qag ?_ qcB.out | refine qag ?_ qfb.out | refine qag ?_ qgE.out) | exact HB.out))⟩)
                skip
                refine qjA ?hg (N := 16) ?hd (cs := #[.int .i64 0, .int .i64 0, .int .i64 0, .int .i64 0, .int .i64 0, .int .i64 0]) (t := 115) ?hr ?_; (case hd => rfl); (case hg => rfl); (case hr => first | (go_simp; done) | (go_simp; rfl)); intro qaC hg w48 hbox hb; have n0_ := qaa.mk (Kd.R_below (by (with_reducible repeat (first | apply Kd.R_alloc | apply Kd.R_drewN | apply Kd.R_drew)); exact HO_13.out) hb); have n1_ := qaa.mk (qan (g := qct) (o := .cells #[.slice A0_0 l0_0.length c0_0, .slice A0_1 l0_1.length c0_1, .slice A0_2 l0_2.length c0_2, .int .i64 a0_3, .int .i64 a0_4] 39 (0, 0)) (by (with_reducible repeat (first | refine qac ?_ _ | refine qae ?_ | refine qab ?_ _)); exact qbl.out) hb); have n2_ := qaa.mk (qan (g := qbt) (o := .cells #[.slice A0_0 l0_0.length c0_0, .slice A0_1 l0_1.length c0_1, .slice A0_2 l0_2.length c0_2, .int .i64 a0_3, .int .i64 a0_4] 111 (0, 0)) (by (with_reducible repeat (first | refine qac ?_ _ | refine qae ?_ | refine qab ?_ _)); exact qaL.out) hb); have n3_ := qaa.mk (qan (g := qa7) (o := .cells #[.int .i64 qcx, .int .i64 qcp, .int .i64 qcj, .int .i64 qcb, .int .i64 qb9, .int .i64 qb0] 115 (0, 0)) (by (with_reducible repeat (first | refine qac ?_ _ | refine qae ?_ | refine qab ?_ _)); exact qbd.out) hb); have n4_ := qaa.mk (qar (by repeat (first | (with_reducible first | exact HB.out | apply qaf | apply qad | apply qah | refine qag ?_ qcu.out | refine qag ?_ qcB.out | refine qag ?_ qfb.out) | exact HB.out)) hb); have n5_ := qaa.mk (hbox); have n6_ := qaa.mk ((by rw [hg]; exact (qam (by repeat (first | (with_reducible first | exact HB.out | apply qaf | apply qad | apply qah | refine qag ?_ qcu.out | refine qag ?_ qcB.out | refine qag ?_ qfb.out) | exact HB.out))) : w.heap.size ≤ qaC)); have n7_ := qaa.mk ((by rw [hg]; exact (qam (by repeat (first | (with_reducible first | exact HB.out | apply qaf | apply qad | apply qah | refine qag ?_ qcu.out | refine qag ?_ qcB.out | refine qag ?_ qfb.out) | exact HB.out))) : w.heap.size ≤ qaC)); have n8_ := qaa.mk ((by rw [hg]; exact Nat.ne_of_lt (qaA (g := qct) (o := .cells #[.slice A0_0 l0_0.length c0_0, .slice A0_1 l0_1.length c0_1, .slice A0_2 l0_2.length c0_2, .int .i64 a0_3, .int .i64 a0_4] 39 (0, 0)) (by (with_reducible repeat (first | refine qac ?_ _ | refine qae ?_ | refine qab ?_ _)); exact qbl.out)) : qct ≠ qaC)); have n9_ := qaa.mk ((by rw [hg]; exact Nat.ne_of_gt (qaA (g := qct) (o := .cells #[.slice A0_0 l0_0.length c0_0, .slice A0_1 l0_1.length c0_1, .slice A0_2 l0_2.length c0_2, .int .i64 a0_3, .int .i64 a0_4] 39 (0, 0)) (by (with_reducible repeat (first | refine qac ?_ _ | refine qae ?_ | refine qab ?_ _)); exact qbl.out)) : qaC ≠ qct)); have n10_ := qaa.mk ((by rw [hg]; exact Nat.ne_of_lt (qaA (g := qbt) (o := .cells #[.slice A0_0 l0_0.length c0_0, .slice A0_1 l0_1.length c0_1, .slice A0_2 l0_2.length c0_2, .int .i64 a0_3, .int .i64 a0_4] 111 (0, 0)) (by (with_reducible repeat (first | refine qac ?_ _ | refine qae ?_ | refine qab ?_ _)); exact qaL.out)) : qbt ≠ qaC)); have n11_ := qaa.mk ((by rw [hg]; exact Nat.ne_of_gt (qaA (g := qbt) (o := .cells #[.slice A0_0 l0_0.length c0_0, .slice A0_1 l0_1.length c0_1, .slice A0_2 l0_2.length c0_2, .int .i64 a0_3, .int .i64 a0_4] 111 (0, 0)) (by (with_reducible repeat (first | refine qac ?_ _ | refine qae ?_ | refine qab ?_ _)); exact qaL.out)) : qaC ≠ qbt)); have n12_ := qaa.mk ((by rw [hg]; exact Nat.ne_of_lt (qaA (g := qa7) (o := .cells #[.int .i64 qcx, .int .i64 qcp, .int .i64 qcj, .int .i64 qcb, .int .i64 qb9, .int .i64 qb0] 115 (0, 0)) (by (with_reducible repeat (first | refine qac ?_ _ | refine qae ?_ | refine qab ?_ _)); exact qbd.out)) : qa7 ≠ qaC)); have n13_ := qaa.mk ((by rw [hg]; exact Nat.ne_of_gt (qaA (g := qa7) (o := .cells #[.int .i64 qcx, .int .i64 qcp, .int .i64 qcj, .int .i64 qcb, .int .i64 qb9, .int .i64 qb0] 115 (0, 0)) (by (with_reducible repeat (first | refine qac ?_ _ | refine qae ?_ | refine qab ?_ _)); exact qbd.out)) : qaC ≠ qa7)); clear HO_13 qbl qaL qbd HB; have HO_13 := n0_; have qbl := n1_; have qaL := n2_; have qbd := n3_; have HB := n4_; have qcc := n5_; have qb2 := n6_; have qgE := n7_; have qdo := n8_; have qeG := n9_; have qbj := n10_; have qeH := n11_; have qa3 := n12_; have qba := n13_; clear n0_ n1_ n2_ n3_ n4_ n5_ n6_ n7_ n8_ n9_ n10_ n11_ n12_ n13_ hb hbox hg; refine hK.out _ _ ⟨(qai qaL.out 0).trans rfl, (qai qaL.out 1).trans rfl, (qai qaL.out 2).trans rfl, (qai qaL.out 3).trans rfl, (qai qaL.out 4).trans rfl, (qai qbd.out 0).trans rfl, (qai qbd.out 1).trans rfl, (qai qbd.out 2).trans rfl, (qai qbd.out 3).trans rfl, (qai qbd.out 4).trans rfl, (qai qbd.out 5).trans rfl, ((HB.out.cell (World.block_lt_of_cell? w _ qce)).trans qce), ((HB.out.cell (World.block_lt_of_cell? w _ qcf)).trans qcf)⟩ (fun hHeld => ?_); clear hK K; refine qd7 (a' := ?_) ?_ ?_
                rotate_left
                ·
                 show Act.put _ (some 16) _ = _
                 simp only [Act.put, List.setIfInBounds_toArray, List.set_cons_zero, List.set_cons_succ, qaM, qaR]
                 rfl
                refine one_ (i := 11) (N := some 75) #[true, true, true, true, true, true, true, true, true, true, true, true, false, false, false, true, false, false] rfl rfl (qeg HT_.out (by kernel_rfl)) (by decide) (fun K hK => ?_); refine qkY Try.func77 (by kernel_rfl) rfl #[.agg #[.slice A0_0 l0_0.length c0_0, .slice A0_1 l0_1.length c0_1, .slice A0_2 l0_2.length c0_2, .int .i64 a0_3, .int .i64 a0_4], .agg #[.int .i64 qcx, .int .i64 qcp, .int .i64 qcj, .int .i64 qcb, .int .i64 qb9, .int .i64 qb0], .int .i64 (rd l1 qcG), .int .i64 (rd l2 qcG)] 64 (by rfl) rfl rfl rfl (by (try simp only [List.map_toArray, List.map_cons, List.map_nil]); first | done | rfl | (simp only [List.length_drop, List.length_take]; rfl)) ?_
                with_reducible refine (qcD.calls _ _ l0_0 _ _ l0_1 _ _ l0_2 a0_3 a0_4 qcx qcp qcj qcb qb9 qb0 (rd l1 qcG) (rd l2 qcG) t171 t172 t173 t174 t175 t176 t177 _ ?side1 ?side2 ?side3 ?side4 ?side5 ?side6 A45.out).mono ?_
                (case side1 => repeat (first | exact (Kd.C_below qda.out HB.out) | (with_reducible refine Kd.C_alloc ?_ _) | (with_reducible refine Kd.C_drewN ?_ _) | (with_reducible refine Kd.C_drew ?_)))
                (case side2 => exact qdt.out)
                (case side3 => repeat (first | exact (Kd.C_below qde.out HB.out) | (with_reducible refine Kd.C_alloc ?_ _) | (with_reducible refine Kd.C_drewN ?_ _) | (with_reducible refine Kd.C_drew ?_)))
                (case side4 => exact qdu.out)
                (case side5 => repeat (first | exact (Kd.C_below qdf.out HB.out) | (with_reducible refine Kd.C_alloc ?_ _) | (with_reducible refine Kd.C_drewN ?_ _) | (with_reducible refine Kd.C_drew ?_)))
                (case side6 => exact qdv.out)
                rintro e w49 ⟨rfl, hb⟩; refine ⟨_, rfl, ?_⟩; have n0_ := qaa.mk (Kd.R_below (by (with_reducible repeat (first | apply Kd.R_alloc | apply Kd.R_drewN | apply Kd.R_drew)); exact HO_13.out) hb); have n1_ := qaa.mk (qan (g := qct) (o := .cells #[.slice A0_0 l0_0.length c0_0, .slice A0_1 l0_1.length c0_1, .slice A0_2 l0_2.length c0_2, .int .i64 a0_3, .int .i64 a0_4] 39 (0, 0)) (by (with_reducible repeat (first | refine qac ?_ _ | refine qae ?_ | refine qab ?_ _)); exact qbl.out) hb); have n2_ := qaa.mk (qan (g := qbt) (o := .cells #[.slice A0_0 l0_0.length c0_0, .slice A0_1 l0_1.length c0_1, .slice A0_2 l0_2.length c0_2, .int .i64 a0_3, .int .i64 a0_4] 111 (0, 0)) (by (with_reducible repeat (first | refine qac ?_ _ | refine qae ?_ | refine qab ?_ _)); exact qaL.out) hb); have n3_ := qaa.mk (qan (g := qa7) (o := .cells #[.int .i64 qcx, .int .i64 qcp, .int .i64 qcj, .int .i64 qcb, .int .i64 qb9, .int .i64 qb0] 115 (0, 0)) (by (with_reducible repeat (first | refine qac ?_ _ | refine qae ?_ | refine qab ?_ _)); exact qbd.out) hb); have n4_ := qaa.mk (qan (g := qaC) (o := .cells #[.int .i64 0, .int .i64 0, .int .i64 0, .int .i64 0, .int .i64 0, .int .i64 0] 115 (0, 0)) (by (with_reducible repeat (first | refine qac ?_ _ | refine qae ?_ | refine qab ?_ _)); exact qcc.out) hb); have n5_ := qaa.mk (qar (by repeat (first | (with_reducible first | exact HB.out | apply qaf | apply qad | apply qah | refine qag ?_ qcu.out | refine qag ?_ qcB.out | refine qag ?_ qfb.out | refine qag ?_ qgE.out) | exact HB.out)) hb); clear HO_13 qbl qaL qbd qcc HB; have HO_13 := n0_; have qbl := n1_; have qaL := n2_; have qbd := n3_; have qcc := n4_; have HB := n5_; clear n0_ n1_ n2_ n3_ n4_ n5_
                (try clear hb)
                (try clear hb2)
                (try clear hk)
                (try clear hi)
                refine hK.out _ _ ⟨(qai qaL.out 0).trans rfl, (qai qaL.out 1).trans rfl, (qai qaL.out 2).trans rfl, (qai qaL.out 3).trans rfl, (qai qaL.out 4).trans rfl, (qai qbd.out 0).trans rfl, (qai qbd.out 1).trans rfl, (qai qbd.out 2).trans rfl, (qai qbd.out 3).trans rfl, (qai qbd.out 4).trans rfl, (qai qbd.out 5).trans rfl, ((HB.out.cell (World.block_lt_of_cell? w _ qce)).trans qce), ((HB.out.cell (World.block_lt_of_cell? w _ qcf)).trans qcf)⟩ (fun hHeld => ?_); clear hK K; refine qd7 (a' := ?_) ?_ ?_
                rotate_left
                ·
                 show Act.put _ (some 75) _ = _
                 simp only [Act.put, List.setIfInBounds_toArray, List.set_cons_zero, List.set_cons_succ, qaM, qaR]
                 rfl
                refine qbp (i := 12) (N := some 63) (v := ?_) (a' := ?_) #[true, true, true, true, true, true, true, true, true, true, true, true, true, false, false, true, false, false] rfl rfl (qbe HT_.out (by kernel_rfl)) (fun _ _ _ h => h) (Or.inl ⟨by rfl, ?_⟩) ?_ ?_
                rotate_left
                ·
                 intro w'
                 go_simp
                 with_reducible rfl
                rotate_left
                ·
                 simp only [Act.put, List.setIfInBounds_toArray, List.set_cons_zero, List.set_cons_succ, qaM, qaR]
                 rfl
                refine qbp (i := 13) (N := some 76) (v := ?_) (a' := ?_) #[true, true, true, true, true, true, true, true, true, true, true, true, true, true, false, true, false, false] rfl rfl (qbe HT_.out (by kernel_rfl)) (fun _ _ _ h => h) (Or.inl ⟨by rfl, ?_⟩) ?_ ?_
                rotate_left
                ·
                 intro w'
                 go_simp
                 with_reducible rfl
                rotate_left
                ·
                 simp only [Act.put, List.setIfInBounds_toArray, List.set_cons_zero, List.set_cons_succ, qaM, qaR]
                 rfl
                refine qbp (i := 14) (N := some 77) (v := ?_) (a' := ?_) #[true, true, true, true, true, true, true, true, true, true, true, true, true, true, true, true, false, false] rfl rfl (qbe HT_.out (by kernel_rfl)) (fun _ _ _ h => h) (Or.inl ⟨by rfl, ?_⟩) ?_ ?_
                rotate_left
                ·
                 intro w'
                 go_simp
                 with_reducible rfl
                rotate_left
                ·
                 simp only [Act.put, List.setIfInBounds_toArray, List.set_cons_zero, List.set_cons_succ, qaM, qaR]
                 rfl
                exact qd7 (by simp only [qhf, Act.put, List.setIfInBounds_toArray, List.set_cons_zero, List.set_cons_succ]) (hCont (qaC) _ ⟨hHeld, (by (with_reducible repeat (first | apply Kd.R_alloc | apply Kd.R_drewN | apply Kd.R_drew)); exact HO_13.out), (by (with_reducible repeat (first | refine qac ?_ _ | refine qae ?_ | refine qab ?_ _)); exact qbl.out), (by (with_reducible repeat (first | refine qac ?_ _ | refine qae ?_ | refine qab ?_ _)); exact qaL.out), (by (with_reducible repeat (first | refine qac ?_ _ | refine qae ?_ | refine qab ?_ _)); exact qbd.out), (by (with_reducible repeat (first | refine qac ?_ _ | refine qae ?_ | refine qab ?_ _)); exact qcc.out), qb2.out, qgE.out, qdo.out, qeG.out, qbj.out, qeH.out, qa3.out, qba.out, (by repeat (first | (with_reducible first | exact HB.out | apply qaf | apply qad | apply qah | refine qag ?_ qcu.out | refine qag ?_ qcB.out | refine qag ?_ qfb.out | refine qag ?_ qgE.out) | exact HB.out))⟩)
               rintro qaC w50 ⟨hS_, h0_, h1_, h2_, h3_, h4_, h5_, h6_, h7_, h8_, h9_, h10_, h11_, h12_, h13_⟩; have n0_ : qaa (Kd.R (Kd.int .i64) 3 w50 w.heap.size (fun k_ => (w.heap.size ≤ k_)) u13 qdO) := ⟨h0_⟩; have n1_ : qaa (w50.heap[qct]? = some (.cells #[.slice A0_0 l0_0.length c0_0, .slice A0_1 l0_1.length c0_1, .slice A0_2 l0_2.length c0_2, .int .i64 a0_3, .int .i64 a0_4] 39 (0, 0))) := ⟨h1_⟩; have n2_ : qaa (w50.heap[qbt]? = some (.cells #[.slice A0_0 l0_0.length c0_0, .slice A0_1 l0_1.length c0_1, .slice A0_2 l0_2.length c0_2, .int .i64 a0_3, .int .i64 a0_4] 111 (0, 0))) := ⟨h2_⟩; have n3_ : qaa (w50.heap[qa7]? = some (.cells #[.int .i64 qcx, .int .i64 qcp, .int .i64 qcj, .int .i64 qcb, .int .i64 qb9, .int .i64 qb0] 115 (0, 0))) := ⟨h3_⟩; have n4_ : qaa (w50.heap[qaC]? = some (.cells #[.int .i64 0, .int .i64 0, .int .i64 0, .int .i64 0, .int .i64 0, .int .i64 0] 115 (0, 0))) := ⟨h4_⟩; have n5_ : qaa (w.heap.size ≤ qaC) := ⟨h5_⟩; have n6_ : qaa (w.heap.size ≤ qaC) := ⟨h6_⟩; have n7_ : qaa (qct ≠ qaC) := ⟨h7_⟩; have n8_ : qaa (qaC ≠ qct) := ⟨h8_⟩; have n9_ : qaa (qbt ≠ qaC) := ⟨h9_⟩; have n10_ : qaa (qaC ≠ qbt) := ⟨h10_⟩; have n11_ : qaa (qa7 ≠ qaC) := ⟨h11_⟩; have n12_ : qaa (qaC ≠ qa7) := ⟨h12_⟩; have n13_ : qaa (Below w.heap.size w w50) := ⟨h13_⟩; clear HO_13 qbl qaL qbd HB h0_ h1_ h2_ h3_ h4_ h5_ h6_ h7_ h8_ h9_ h10_ h11_ h12_ h13_; have HO_13 := n0_; have qbl := n1_; have qaL := n2_; have qbd := n3_; have qcc := n4_; have qb2 := n5_; have qgE := n6_; have qdo := n7_; have qeG := n8_; have qbj := n9_; have qeH := n10_; have qa3 := n11_; have qba := n12_; have HB := n13_; clear n0_ n1_ n2_ n3_ n4_ n5_ n6_ n7_ n8_ n9_ n10_ n11_ n12_ n13_; have hHeld : w50.cell? ⟨qbt, 0, none⟩ = some (.slice A0_0 l0_0.length c0_0) ∧ w50.cell? ⟨qbt, 1, none⟩ = some (.slice A0_1 l0_1.length c0_1) ∧ w50.cell? ⟨qbt, 2, none⟩ = some (.slice A0_2 l0_2.length c0_2) ∧ w50.cell? ⟨qbt, 3, none⟩ = some (.int .i64 a0_3) ∧ w50.cell? ⟨qbt, 4, none⟩ = some (.int .i64 a0_4) ∧ w50.cell? ⟨qa7, 0, none⟩ = some (.int .i64 qcx) ∧ w50.cell? ⟨qa7, 1, none⟩ = some (.int .i64 qcp) ∧ w50.cell? ⟨qa7, 2, none⟩ = some (.int .i64 qcj) ∧ w50.cell? ⟨qa7, 3, none⟩ = some (.int .i64 qcb) ∧ w50.cell? ⟨qa7, 4, none⟩ = some (.int .i64 qb9) ∧ w50.cell? ⟨qa7, 5, none⟩ = some (.int .i64 qb0) ∧ w50.cell? (qpm.add (qcG).toNat) = some (.int .i64 (rd l1 qcG)) ∧ w50.cell? (qpn.add (qcG).toNat) = some (.int .i64 (rd l2 qcG)) := hS_; refine qd7 (a' := ?_) ?_ ?_
               rotate_left
               ·
                simp only [qhf, Act.put, List.setIfInBounds_toArray, List.set_cons_zero, List.set_cons_succ]
                rfl
               refine qbp (i := 16) (N := some 15) (v := ?_) (a' := ?_) #[true, true, true, true, true, true, true, true, true, true, true, true, true, true, true, true, true, false] rfl rfl (qbe HT_.out (by kernel_rfl)) (fun _ _ _ h => h) (Or.inl ⟨by rfl, ?_⟩) ?_ ?_
               rotate_left
               ·
                intro w'
                go_simp
                with_reducible rfl
               rotate_left
               ·
                simp only [Act.put, List.setIfInBounds_toArray, List.set_cons_zero, List.set_cons_succ, qaM, qaR]
                rfl
               refine one_ (i := 17) (N := none) #[true, true, true, true, true, true, true, true, true, true, true, true, true, true, true, true, true, true] rfl rfl (qeg HT_.out (by kernel_rfl)) (by decide) (fun K hK => ?_); have hs51 : w50.cell? ⟨qaC, 0, none⟩ = some (.int .i64 0) := (qai qcc.out 0).trans rfl; have qDy := qaj qcc.out 0; have qxD := qdo.out; have qxE := qbj.out; have qxF := qa3.out; have qxG := qeG.out; have qxH := qeH.out; have qxI := qba.out; have hs52 : w50.cell? ⟨qaC, 1, none⟩ = some (.int .i64 0) := (qai qcc.out 1).trans rfl; have qDz := qaj qcc.out 1; have qxJ := qdo.out; have qxK := qbj.out; have qxL := qa3.out; have qxM := qeG.out; have qxN := qeH.out; have qxO := qba.out; have hs53 : w50.cell? ⟨qaC, 2, none⟩ = some (.int .i64 0) := (qai qcc.out 2).trans rfl; have qDA := qaj qcc.out 2; have qxP := qdo.out; have qxQ := qbj.out; have qxR := qa3.out; have qxS := qeG.out; have qxT := qeH.out; have qxU := qba.out; have hs54 : w50.cell? ⟨qaC, 3, none⟩ = some (.int .i64 0) := (qai qcc.out 3).trans rfl; have qDB := qaj qcc.out 3; have qxV := qdo.out; have qxW := qbj.out; have qxX := qa3.out; have qxY := qeG.out; have qxZ := qeH.out; have qx0 := qba.out; have hs55 : w50.cell? ⟨qaC, 4, none⟩ = some (.int .i64 0) := (qai qcc.out 4).trans rfl; have qui := qaj qcc.out 4; have qrY := qdo.out; have qx1 := qbj.out; have qrZ := qa3.out; have qr0 := qeG.out; have qx2 := qeH.out; have qr1 := qba.out; have hs56 : w50.cell? ⟨qaC, 5, none⟩ = some (.int .i64 0) := (qai qcc.out 5).trans rfl; have qDC := qaj qcc.out 5; have qx3 := qdo.out; have qx4 := qbj.out; have qx5 := qa3.out; have qx6 := qeG.out; have qx7 := qeH.out; have qx8 := qba.out; refine qiv (w1 := ?_) (by rfl) rfl ?_ ?_
               rotate_left
               ·
                go_simp
                rfl
               refine hK.out _ _ ⟨((qaq (p := ⟨qaC, _, none⟩) qbj.out _).trans (((qaq (p := ⟨qaC, _, none⟩) qbj.out _).trans (((qaq (p := ⟨qaC, _, none⟩) qbj.out _).trans (((qaq (p := ⟨qaC, _, none⟩) qbj.out _).trans (((qaq (p := ⟨qaC, _, none⟩) qbj.out _).trans (((qaq (p := ⟨qaC, _, none⟩) qbj.out _).trans (hHeld.1)))))))))))), ((qaq (p := ⟨qaC, _, none⟩) qbj.out _).trans (((qaq (p := ⟨qaC, _, none⟩) qbj.out _).trans (((qaq (p := ⟨qaC, _, none⟩) qbj.out _).trans (((qaq (p := ⟨qaC, _, none⟩) qbj.out _).trans (((qaq (p := ⟨qaC, _, none⟩) qbj.out _).trans (((qaq (p := ⟨qaC, _, none⟩) qbj.out _).trans (hHeld.2.1)))))))))))), ((qaq (p := ⟨qaC, _, none⟩) qbj.out _).trans (((qaq (p := ⟨qaC, _, none⟩) qbj.out _).trans (((qaq (p := ⟨qaC, _, none⟩) qbj.out _).trans (((qaq (p := ⟨qaC, _, none⟩) qbj.out _).trans (((qaq (p := ⟨qaC, _, none⟩) qbj.out _).trans (((qaq (p := ⟨qaC, _, none⟩) qbj.out _).trans (hHeld.2.2.1)))))))))))), ((qaq (p := ⟨qaC, _, none⟩) qbj.out _).trans (((qaq (p := ⟨qaC, _, none⟩) qbj.out _).trans (((qaq (p := ⟨qaC, _, none⟩) qbj.out _).trans (((qaq (p := ⟨qaC, _, none⟩) qbj.out _).trans (((qaq (p := ⟨qaC, _, none⟩) qbj.out _).trans (((qaq (p := ⟨qaC, _, none⟩) qbj.out _).trans (hHeld.2.2.2.1)))))))))))), ((qaq (p := ⟨qaC, _, none⟩) qbj.out _).trans (((qaq (p := ⟨qaC, _, none⟩) qbj.out _).trans (((qaq (p := ⟨qaC, _, none⟩) qbj.out _).trans (((qaq (p := ⟨qaC, _, none⟩) qbj.out _).trans (((qaq (p := ⟨qaC, _, none⟩) qbj.out _).trans (((qaq (p := ⟨qaC, _, none⟩) qbj.out _).trans (hHeld.2.2.2.2.1)))))))))))), ((qaq (p := ⟨qaC, _, none⟩) qa3.out _).trans (((qaq (p := ⟨qaC, _, none⟩) qa3.out _).trans (((qaq (p := ⟨qaC, _, none⟩) qa3.out _).trans (((qaq (p := ⟨qaC, _, none⟩) qa3.out _).trans (((qaq (p := ⟨qaC, _, none⟩) qa3.out _).trans (((qaq (p := ⟨qaC, _, none⟩) qa3.out _).trans (hHeld.2.2.2.2.2.1)))))))))))), ((qaq (p := ⟨qaC, _, none⟩) qa3.out _).trans (((qaq (p := ⟨qaC, _, none⟩) qa3.out _).trans (((qaq (p := ⟨qaC, _, none⟩) qa3.out _).trans (((qaq (p := ⟨qaC, _, none⟩) qa3.out _).trans (((qaq (p := ⟨qaC, _, none⟩) qa3.out _).trans (((qaq (p := ⟨qaC, _, none⟩) qa3.out _).trans (hHeld.2.2.2.2.2.2.1)))))))))))), ((qaq (p := ⟨qaC, _, none⟩) qa3.out _).trans (((qaq (p := ⟨qaC, _, none⟩) qa3.out _).trans (((qaq (p := ⟨qaC, _, none⟩) qa3.out _).trans (((qaq (p := ⟨qaC, _, none⟩) qa3.out _).trans (((qaq (p := ⟨qaC, _, none⟩) qa3.out _).trans (((qaq (p := ⟨qaC, _, none⟩) qa3.out _).trans (hHeld.2.2.2.2.2.2.2.1)))))))))))), ((qaq (p := ⟨qaC, _, none⟩) qa3.out _).trans (((qaq (p := ⟨qaC, _, none⟩) qa3.out _).trans (((qaq (p := ⟨qaC, _, none⟩) qa3.out _).trans (((qaq (p := ⟨qaC, _, none⟩) qa3.out _).trans (((qaq (p := ⟨qaC, _, none⟩) qa3.out _).trans (((qaq (p := ⟨qaC, _, none⟩) qa3.out _).trans (hHeld.2.2.2.2.2.2.2.2.1)))))))))))), ((qaq (p := ⟨qaC, _, none⟩) qa3.out _).trans (((qaq (p := ⟨qaC, _, none⟩) qa3.out _).trans (((qaq (p := ⟨qaC, _, none⟩) qa3.out _).trans (((qaq (p := ⟨qaC, _, none⟩) qa3.out _).trans (((qaq (p := ⟨qaC, _, none⟩) qa3.out _).trans (((qaq (p := ⟨qaC, _, none⟩) qa3.out _).trans (hHeld.2.2.2.2.2.2.2.2.2.1)))))))))))), ((qaq (p := ⟨qaC, _, none⟩) qa3.out _).trans (((qaq (p := ⟨qaC, _, none⟩) qa3.out _).trans (((qaq (p := ⟨qaC, _, none⟩) qa3.out _).trans (((qaq (p := ⟨qaC, _, none⟩) qa3.out _).trans (((qaq (p := ⟨qaC, _, none⟩) qa3.out _).trans (((qaq (p := ⟨qaC, _, none⟩) qa3.out _).trans (hHeld.2.2.2.2.2.2.2.2.2.2.1)))))))))))), ((qaq (p := ⟨qaC, _, none⟩) (by first | exact Nat.ne_of_lt (Nat.lt_of_lt_of_le (by have := World.block_lt_of_cell? _ _ qce; first | rwa [qap] at this | exact this) qb2.out) | (rw [qap]; exact Nat.ne_of_lt (Nat.lt_of_lt_of_le (by have := World.block_lt_of_cell? _ _ qce; first | rwa [qap] at this | exact this) qb2.out)) | (show (Addr.add _ _).block ≠ _; rw [qap]; exact Nat.ne_of_lt (Nat.lt_of_lt_of_le (by have := World.block_lt_of_cell? _ _ qce; first | rwa [qap] at this | exact this) qb2.out)) | (dsimp only; exact Nat.ne_of_lt (Nat.lt_of_lt_of_le (by have := World.block_lt_of_cell? _ _ qce; first | rwa [qap] at this | exact this) qb2.out))) _).trans (((qaq (p := ⟨qaC, _, none⟩) (by first | exact Nat.ne_of_lt (Nat.lt_of_lt_of_le (by have := World.block_lt_of_cell? _ _ qce; first | rwa [qap] at this | exact this) qb2.out) | (rw [qap]; exact Nat.ne_of_lt (Nat.lt_of_lt_of_le (by have := World.block_lt_of_cell? _ _ qce; first | rwa [qap] at this | exact this) qb2.out)) | (show (Addr.add _ _).block ≠ _; rw [qap]; exact Nat.ne_of_lt (Nat.lt_of_lt_of_le (by have := World.block_lt_of_cell? _ _ qce; first | rwa [qap] at this | exact this) qb2.out)) | (dsimp only; exact Nat.ne_of_lt (Nat.lt_of_lt_of_le (by have := World.block_lt_of_cell? _ _ qce; first | rwa [qap] at this | exact this) qb2.out))) _).trans (((qaq (p := ⟨qaC, _, none⟩) (by first | exact Nat.ne_of_lt (Nat.lt_of_lt_of_le (by have := World.block_lt_of_cell? _ _ qce; first | rwa [qap] at this | exact this) qb2.out) | (rw [qap]; exact Nat.ne_of_lt (Nat.lt_of_lt_of_le (by have := World.block_lt_of_cell? _ _ qce; first | rwa [qap] at this | exact this) qb2.out)) | (show (Addr.add _ _).block ≠ _; rw [qap]; exact Nat.ne_of_lt (Nat.lt_of_lt_of_le (by have := World.block_lt_of_cell? _ _ qce; first | rwa [qap] at this | exact this) qb2.out)) | (dsimp only; exact Nat.ne_of_lt (Nat.lt_of_lt_of_le (by have := World.block_lt_of_cell? _ _ qce; first | rwa [qap] at this | exact this) qb2.out))) _).trans (((qaq (p := ⟨qaC, _, none⟩) (by first | exact Nat.ne_of_lt (Nat.lt_of_lt_of_le (by have := World.block_lt_of_cell? _ _ qce; first | rwa [qap] at this | exact this) qb2.out) | (rw [qap]; exact Nat.ne_of_lt (Nat.lt_of_lt_of_le (by have := World.block_lt_of_cell? _ _ qce; first | rwa [qap] at this | exact this) qb2.out)) | (show (Addr.add _ _).block ≠ _; rw [qap]; exact Nat.ne_of_lt (Nat.lt_of_lt_of_le (by have := World.block_lt_of_cell? _ _ qce; first | rwa [qap] at this | exact this) qb2.out)) | (dsimp only; exact Nat.ne_of_lt (Nat.lt_of_lt_of_le (by have := World.block_lt_of_cell? _ _ qce; first | rwa [qap] at this | exact this) qb2.out))) _).trans (((qaq (p := ⟨qaC, _, none⟩) (by first | exact Nat.ne_of_lt (Nat.lt_of_lt_of_le (by have := World.block_lt_of_cell? _ _ qce; first | rwa [qap] at this | exact this) qb2.out) | (rw [qap]; exact Nat.ne_of_lt (Nat.lt_of_lt_of_le (by have := World.block_lt_of_cell? _ _ qce; first | rwa [qap] at this | exact this) qb2.out)) | (show (Addr.add _ _).block ≠ _; rw [qap]; exact Nat.ne_of_lt (Nat.lt_of_lt_of_le (by have := World.block_lt_of_cell? _ _ qce; first | rwa [qap] at this | exact this) qb2.out)) | (dsimp only; exact Nat.ne_of_lt (Nat.lt_of_lt_of_le (by have := World.block_lt_of_cell? _ _ qce; first | rwa [qap] at this | exact this) qb2.out))) _).trans (((qaq (p := ⟨qaC, _, none⟩) (by first | exact Nat.ne_of_lt (Nat.lt_of_lt_of_le (by have := World.block_lt_of_cell? _ _ qce; first | rwa [qap] at this | exact this) qb2.out) | (rw [qap]; exact Nat.ne_of_lt (Nat.lt_of_lt_of_le (by have := World.block_lt_of_cell? _ _ qce; first | rwa [qap] at this | exact this) qb2.out)) | (show (Addr.add _ _).block ≠ _; rw [qap]; exact Nat.ne_of_lt (Nat.lt_of_lt_of_le (by have := World.block_lt_of_cell? _ _ qce; first | rwa [qap] at this | exact this) qb2.out)) | (dsimp only; exact Nat.ne_of_lt (Nat.lt_of_lt_of_le (by have := World.block_lt_of_cell? _ _ qce; first | rwa [qap] at this | exact this) qb2.out))) _).trans (hHeld.2.2.2.2.2.2.2.2.2.2.2.1)))))))))))), ((qaq (p := ⟨qaC, _, none⟩) (by first | exact Nat.ne_of_lt (Nat.lt_of_lt_of_le (by have := World.block_lt_of_cell? _ _ qcf; first | rwa [qap] at this | exact this) qb2.out) | (rw [qap]; exact Nat.ne_of_lt (Nat.lt_of_lt_of_le (by have := World.block_lt_of_cell? _ _ qcf; first | rwa [qap] at this | exact this) qb2.out)) | (show (Addr.add _ _).block ≠ _; rw [qap]; exact Nat.ne_of_lt (Nat.lt_of_lt_of_le (by have := World.block_lt_of_cell? _ _ qcf; first | rwa [qap] at this | exact this) qb2.out)) | (dsimp only; exact Nat.ne_of_lt (Nat.lt_of_lt_of_le (by have := World.block_lt_of_cell? _ _ qcf; first | rwa [qap] at this | exact this) qb2.out))) _).trans (((qaq (p := ⟨qaC, _, none⟩) (by first | exact Nat.ne_of_lt (Nat.lt_of_lt_of_le (by have := World.block_lt_of_cell? _ _ qcf; first | rwa [qap] at this | exact this) qb2.out) | (rw [qap]; exact Nat.ne_of_lt (Nat.lt_of_lt_of_le (by have := World.block_lt_of_cell? _ _ qcf; first | rwa [qap] at this | exact this) qb2.out)) | (show (Addr.add _ _).block ≠ _; rw [qap]; exact Nat.ne_of_lt (Nat.lt_of_lt_of_le (by have := World.block_lt_of_cell? _ _ qcf; first | rwa [qap] at this | exact this) qb2.out)) | (dsimp only; exact Nat.ne_of_lt (Nat.lt_of_lt_of_le (by have := World.block_lt_of_cell? _ _ qcf; first | rwa [qap] at this | exact this) qb2.out))) _).trans (((qaq (p := ⟨qaC, _, none⟩) (by first | exact Nat.ne_of_lt (Nat.lt_of_lt_of_le (by have := World.block_lt_of_cell? _ _ qcf; first | rwa [qap] at this | exact this) qb2.out) | (rw [qap]; exact Nat.ne_of_lt (Nat.lt_of_lt_of_le (by have := World.block_lt_of_cell? _ _ qcf; first | rwa [qap] at this | exact this) qb2.out)) | (show (Addr.add _ _).block ≠ _; rw [qap]; exact Nat.ne_of_lt (Nat.lt_of_lt_of_le (by have := World.block_lt_of_cell? _ _ qcf; first | rwa [qap] at this | exact this) qb2.out)) | (dsimp only; exact Nat.ne_of_lt (Nat.lt_of_lt_of_le (by have := World.block_lt_of_cell? _ _ qcf; first | rwa [qap] at this | exact this) qb2.out))) _).trans (((qaq (p := ⟨qaC, _, none⟩) (by first | exact Nat.ne_of_lt (Nat.lt_of_lt_of_le (by have := World.block_lt_of_cell? _ _ qcf; first | rwa [qap] at this | exact this) qb2.out) | (rw [qap]; exact Nat.ne_of_lt (Nat.lt_of_lt_of_le (by have := World.block_lt_of_cell? _ _ qcf; first | rwa [qap] at this | exact this) qb2.out)) | (show (Addr.add _ _).block ≠ _; rw [qap]; exact Nat.ne_of_lt (Nat.lt_of_lt_of_le (by have := World.block_lt_of_cell? _ _ qcf; first | rwa [qap] at this | exact this) qb2.out)) | (dsimp only; exact Nat.ne_of_lt (Nat.lt_of_lt_of_le (by have := World.block_lt_of_cell? _ _ qcf; first | rwa [qap] at this | exact this) qb2.out))) _).trans (((qaq (p := ⟨qaC, _, none⟩) (by first | exact Nat.ne_of_lt (Nat.lt_of_lt_of_le (by have := World.block_lt_of_cell? _ _ qcf; first | rwa [qap] at this | exact this) qb2.out) | (rw [qap]; exact Nat.ne_of_lt (Nat.lt_of_lt_of_le (by have := World.block_lt_of_cell? _ _ qcf; first | rwa [qap] at this | exact this) qb2.out)) | (show (Addr.add _ _).block ≠ _; rw [qap]; exact Nat.ne_of_lt (Nat.lt_of_lt_of_le (by have := World.block_lt_of_cell? _ _ qcf; first | rwa [qap] at this | exact this) qb2.out)) | (dsimp only; exact Nat.ne_of_lt (Nat.lt_of_lt_of_le (by have := World.block_lt_of_cell? _ _ qcf; first | rwa [qap] at this | exact this) qb2.out))) _).trans (((qaq (p := ⟨qaC, _, none⟩) (by first | exact Nat.ne_of_lt (Nat.lt_of_lt_of_le (by have := World.block_lt_of_cell? _ _ qcf; first | rwa [qap] at this | exact this) qb2.out) | (rw [qap]; exact Nat.ne_of_lt (Nat.lt_of_lt_of_le (by have := World.block_lt_of_cell? _ _ qcf; first | rwa [qap] at this | exact this) qb2.out)) | (show (Addr.add _ _).block ≠ _; rw [qap]; exact Nat.ne_of_lt (Nat.lt_of_lt_of_le (by have := World.block_lt_of_cell? _ _ qcf; first | rwa [qap] at this | exact this) qb2.out)) | (dsimp only; exact Nat.ne_of_lt (Nat.lt_of_lt_of_le (by have := World.block_lt_of_cell? _ _ qcf; first | rwa [qap] at this | exact this) qb2.out))) _).trans (hHeld.2.2.2.2.2.2.2.2.2.2.2.2))))))))))))⟩ (fun hHeld => ?_); clear hK K; refine qhv (qf8 HT_.out (by kernel_rfl)) ?_
               try go_wp2
               have n0_ : qaa (Kd.R (Kd.int .i64) 3 ((((((w50.setCell ⟨qaC, 0, none⟩ (.int .i64 t172)).setCell ⟨qaC, 1, none⟩ (.int .i64 t173)).setCell ⟨qaC, 2, none⟩ (.int .i64 t174)).setCell ⟨qaC, 3, none⟩ (.int .i64 t175)).setCell ⟨qaC, 4, none⟩ (.int .i64 t176)).setCell ⟨qaC, 5, none⟩ (.int .i64 t177)) w.heap.size (fun k_ => (w.heap.size ≤ k_)) u13 qdO) := ⟨by (with_reducible repeat (first | apply Kd.R_alloc | apply Kd.R_drewN | apply Kd.R_drew)); exact Kd.R_mono (Kd.R_far (p := ⟨qaC, 5, none⟩) (Kd.R_far (p := ⟨qaC, 4, none⟩) (Kd.R_far (p := ⟨qaC, 3, none⟩) (Kd.R_far (p := ⟨qaC, 2, none⟩) (Kd.R_far (p := ⟨qaC, 1, none⟩) (Kd.R_far (p := ⟨qaC, 0, none⟩) (Kd.R_types HO_13.out qcc.out (by decide)) (fun _ hk => hk.2) (.int .i64 t172)) (fun _ hk => hk.2) (.int .i64 t173)) (fun _ hk => hk.2) (.int .i64 t174)) (fun _ hk => hk.2) (.int .i64 t175)) (fun _ hk => hk.2) (.int .i64 t176)) (fun _ hk => hk.2) (.int .i64 t177)) (fun _ hk => hk.1)⟩; have n1_ : qaa (((((((w50.setCell ⟨qaC, 0, none⟩ (.int .i64 t172)).setCell ⟨qaC, 1, none⟩ (.int .i64 t173)).setCell ⟨qaC, 2, none⟩ (.int .i64 t174)).setCell ⟨qaC, 3, none⟩ (.int .i64 t175)).setCell ⟨qaC, 4, none⟩ (.int .i64 t176)).setCell ⟨qaC, 5, none⟩ (.int .i64 t177)).heap[qct]? = some (.cells #[.slice A0_0 l0_0.length c0_0, .slice A0_1 l0_1.length c0_1, .slice A0_2 l0_2.length c0_2, .int .i64 a0_3, .int .i64 a0_4] 39 (0, 0))) := ⟨by (with_reducible repeat (first | refine qac ?_ _ | refine qae ?_ | refine qab ?_ _)); refine qao ?_ qdo.out _; (with_reducible repeat (first | refine qac ?_ _ | refine qae ?_ | refine qab ?_ _)); refine qao ?_ qdo.out _; (with_reducible repeat (first | refine qac ?_ _ | refine qae ?_ | refine qab ?_ _)); refine qao ?_ qdo.out _; (with_reducible repeat (first | refine qac ?_ _ | refine qae ?_ | refine qab ?_ _)); refine qao ?_ qdo.out _; (with_reducible repeat (first | refine qac ?_ _ | refine qae ?_ | refine qab ?_ _)); refine qao ?_ qdo.out _; (with_reducible repeat (first | refine qac ?_ _ | refine qae ?_ | refine qab ?_ _)); refine qao ?_ qdo.out _; (with_reducible repeat (first | refine qac ?_ _ | refine qae ?_ | refine qab ?_ _)); exact qbl.out⟩; have n2_ : qaa (((((((w50.setCell ⟨qaC, 0, none⟩ (.int .i64 t172)).setCell ⟨qaC, 1, none⟩ (.int .i64 t173)).setCell ⟨qaC, 2, none⟩ (.int .i64 t174)).setCell ⟨qaC, 3, none⟩ (.int .i64 t175)).setCell ⟨qaC, 4, none⟩ (.int .i64 t176)).setCell ⟨qaC, 5, none⟩ (.int .i64 t177)).heap[qbt]? = some (.cells #[.slice A0_0 l0_0.length c0_0, .slice A0_1 l0_1.length c0_1, .slice A0_2 l0_2.length c0_2, .int .i64 a0_3, .int .i64 a0_4] 111 (0, 0))) := ⟨by (with_reducible repeat (first | refine qac ?_ _ | refine qae ?_ | refine qab ?_ _)); refine qao ?_ qbj.out _; (with_reducible repeat (first | refine qac ?_ _ | refine qae ?_ | refine qab ?_ _)); refine qao ?_ qbj.out _; (with_reducible repeat (first | refine qac ?_ _ | refine qae ?_ | refine qab ?_ _)); refine qao ?_ qbj.out _; (with_reducible repeat (first | refine qac ?_ _ | refine qae ?_ | refine qab ?_ _)); refine qao ?_ qbj.out _; (with_reducible repeat (first | refine qac ?_ _ | refine qae ?_ | refine qab ?_ _)); refine qao ?_ qbj.out _; (with_reducible repeat (first | refine qac ?_ _ | refine qae ?_ | refine qab ?_ _)); refine qao ?_ qbj.out _; (with_reducible repeat (first | refine qac ?_ _ | refine qae ?_ | refine qab ?_ _)); exact qaL.out⟩; have n3_ : qaa (((((((w50.setCell ⟨qaC, 0, none⟩ (.int .i64 t172)).setCell ⟨qaC, 1, none⟩ (.int .i64 t173)).setCell ⟨qaC, 2, none⟩ (.int .i64 t174)).setCell ⟨qaC, 3, none⟩ (.int .i64 t175)).setCell ⟨qaC, 4, none⟩ (.int .i64 t176)).setCell ⟨qaC, 5, none⟩ (.int .i64 t177)).heap[qa7]? = some (.cells #[.int .i64 qcx, .int .i64 qcp, .int .i64 qcj, .int .i64 qcb, .int .i64 qb9, .int .i64 qb0] 115 (0, 0))) := ⟨by (with_reducible repeat (first | refine qac ?_ _ | refine qae ?_ | refine qab ?_ _)); refine qao ?_ qa3.out _; (with_reducible repeat (first | refine qac ?_ _ | refine qae ?_ | refine qab ?_ _)); refine qao ?_ qa3.out _; (with_reducible repeat (first | refine qac ?_ _ | refine qae ?_ | refine qab ?_ _)); refine qao ?_ qa3.out _; (with_reducible repeat (first | refine qac ?_ _ | refine qae ?_ | refine qab ?_ _)); refine qao ?_ qa3.out _; (with_reducible repeat (first | refine qac ?_ _ | refine qae ?_ | refine qab ?_ _)); refine qao ?_ qa3.out _; (with_reducible repeat (first | refine qac ?_ _ | refine qae ?_ | refine qab ?_ _)); refine qao ?_ qa3.out _; (with_reducible repeat (first | refine qac ?_ _ | refine qae ?_ | refine qab ?_ _)); exact qbd.out⟩; have n4_ : qaa (((((((w50.setCell ⟨qaC, 0, none⟩ (.int .i64 t172)).setCell ⟨qaC, 1, none⟩ (.int .i64 t173)).setCell ⟨qaC, 2, none⟩ (.int .i64 t174)).setCell ⟨qaC, 3, none⟩ (.int .i64 t175)).setCell ⟨qaC, 4, none⟩ (.int .i64 t176)).setCell ⟨qaC, 5, none⟩ (.int .i64 t177)).heap[qaC]? = some (.cells #[.int .i64 t172, .int .i64 t173, .int .i64 t174, .int .i64 t175, .int .i64 t176, .int .i64 t177] 115 (0, 0))) := ⟨by (with_reducible repeat (first | refine qac ?_ _ | refine qae ?_ | refine qab ?_ _)); refine qaw (cs := #[.int .i64 t172, .int .i64 t173, .int .i64 t174, .int .i64 t175, .int .i64 t176, .int .i64 0]) ?_ 5 _ rfl; (with_reducible repeat (first | refine qac ?_ _ | refine qae ?_ | refine qab ?_ _)); refine qaw (cs := #[.int .i64 t172, .int .i64 t173, .int .i64 t174, .int .i64 t175, .int .i64 0, .int .i64 0]) ?_ 4 _ rfl; (with_reducible repeat (first | refine qac ?_ _ | refine qae ?_ | refine qab ?_ _)); refine qaw (cs := #[.int .i64 t172, .int .i64 t173, .int .i64 t174, .int .i64 0, .int .i64 0, .int .i64 0]) ?_ 3 _ rfl; (with_reducible repeat (first | refine qac ?_ _ | refine qae ?_ | refine qab ?_ _)); refine qaw (cs := #[.int .i64 t172, .int .i64 t173, .int .i64 0, .int .i64 0, .int .i64 0, .int .i64 0]) ?_ 2 _ rfl; (with_reducible repeat (first | refine qac ?_ _ | refine qae ?_ | refine qab ?_ _)); refine qaw (cs := #[.int .i64 t172, .int .i64 0, .int .i64 0, .int .i64 0, .int .i64 0, .int .i64 0]) ?_ 1 _ rfl; (with_reducible repeat (first | refine qac ?_ _ | refine qae ?_ | refine qab ?_ _)); refine qaw (cs := #[.int .i64 0, .int .i64 0, .int .i64 0, .int .i64 0, .int .i64 0, .int .i64 0]) ?_ 0 _ rfl; (with_reducible repeat (first | refine qac ?_ _ | refine qae ?_ | refine qab ?_ _)); exact qcc.out⟩; have n5_ : qaa (Below w.heap.size w ((((((w50.setCell ⟨qaC, 0, none⟩ (.int .i64 t172)).setCell ⟨qaC, 1, none⟩ (.int .i64 t173)).setCell ⟨qaC, 2, none⟩ (.int .i64 t174)).setCell ⟨qaC, 3, none⟩ (.int .i64 t175)).setCell ⟨qaC, 4, none⟩ (.int .i64 t176)).setCell ⟨qaC, 5, none⟩ (.int .i64 t177))) := ⟨by repeat (first | (with_reducible first | exact HB.out | apply qaf | apply qad | apply qah | refine qag ?_ qcu.out | refine qag ?_ qcB.out | refine qag ?_ qfb.out | refine qag ?_ qgE.out) | exact HB.out)⟩
               (try clear HO_13)
               (try clear qbl)
               (try clear qaL)
               (try clear qbd)
               (try clear qcc)
               (try clear HB)
               generalize ((((((w50.setCell ⟨qaC, 0, none⟩ (.int .i64 t172)).setCell ⟨qaC, 1, none⟩ (.int .i64 t173)).setCell ⟨qaC, 2, none⟩ (.int .i64 t174)).setCell ⟨qaC, 3, none⟩ (.int .i64 t175)).setCell ⟨qaC, 4, none⟩ (.int .i64 t176)).setCell ⟨qaC, 5, none⟩ (.int .i64 t177)) = w57 at n0_ n1_ n2_ n3_ n4_ n5_ ⊢
               have HO_13 := n0_; have qbl := n1_; have qaL := n2_; have qbd := n3_; have qcc := n4_; have HB := n5_; clear n0_ n1_ n2_ n3_ n4_ n5_; have n0_ := qaa.mk (Kd.R_drew HO_13.out); have n1_ := qaa.mk (qae qbl.out); have n2_ := qaa.mk (qae qaL.out); have n3_ := qaa.mk (qae qbd.out); have n4_ := qaa.mk (qae qcc.out); have n5_ := qaa.mk (qah HB.out); clear HO_13 qbl qaL qbd qcc HB; have HO_13 := n0_; have qbl := n1_; have qaL := n2_; have qbd := n3_; have qcc := n4_; have HB := n5_; clear n0_ n1_ n2_ n3_ n4_ n5_; refine qgB (n := 7) (S := fun w' => w'.cell? ⟨qaC, 0, none⟩ = some (.int .i64 t172) ∧ w'.cell? ⟨qaC, 1, none⟩ = some (.int .i64 t173) ∧ w'.cell? ⟨qaC, 2, none⟩ = some (.int .i64 t174) ∧ w'.cell? ⟨qaC, 3, none⟩ = some (.int .i64 t175) ∧ w'.cell? ⟨qaC, 4, none⟩ = some (.int .i64 t176) ∧ w'.cell? ⟨qaC, 5, none⟩ = some (.int .i64 t177)) (ds := []) #[false, false, false, false, false, false, false] (by kernel_rfl) rfl rfl ⟨(qai qcc.out 0).trans rfl, (qai qcc.out 1).trans rfl, (qai qcc.out 2).trans rfl, (qai qcc.out 3).trans rfl, (qai qcc.out 4).trans rfl, (qai qcc.out 5).trans rfl⟩ (fun hHeld => ?_)
               generalize w57.drew = w58 at HO_13 qbl qaL qbd qcc HB hHeld ⊢
               refine qbp (i := 0) (N := some 78) (v := ?_) (a' := ?_) #[true, false, false, false, false, false, false] rfl rfl (by kernel_rfl) (fun _ _ _ h => h) (Or.inl ⟨by rfl, ?_⟩) ?_ ?_
               rotate_left
               ·
                intro w'
                go_simp
                with_reducible rfl
               rotate_left
               ·
                simp only [Act.put, List.setIfInBounds_toArray, List.set_cons_zero, List.set_cons_succ, qaM, qaR]
                rfl
               refine qbp (i := 1) (N := some 79) (v := ?_) (a' := ?_) #[true, true, false, false, false, false, false] rfl rfl (by kernel_rfl) (fun _ _ _ h => h) (Or.inl ⟨by rfl, ?_⟩) ?_ ?_
               rotate_left
               ·
                intro w'
                go_simp
                with_reducible rfl
               rotate_left
               ·
                simp only [Act.put, List.setIfInBounds_toArray, List.set_cons_zero, List.set_cons_succ, qaM, qaR]
                rfl
               refine take_ (i := 4) (N := some 82) (v := ?_) (a' := ?_) #[true, true, false, false, true, false, false] rfl rfl (by kernel_rfl) (fun _ _ _ h => h) (Or.inl ⟨by rfl, ?_⟩) hHeld ?_ ?_
               rotate_left
               ·
                rintro w' ⟨s0, s1, s2, s3, s4, s5⟩
                go_simp
                with_reducible rfl
               rotate_left
               ·
                simp only [Act.put, List.setIfInBounds_toArray, List.set_cons_zero, List.set_cons_succ, qaM, qaR]
                rfl
               refine one_ (i := 2) (N := some 80) #[true, true, true, false, true, false, false] rfl rfl (by kernel_rfl) (by decide) (fun K hK => ?_); refine qns (w1 := ?_) (v := ?_) (by rfl) rfl ?_ ?_
               rotate_left 2
               ·
                go_simp
                constructor
                ·
                 rfl
                rfl
               refine hK.out _ _ ⟨(qai (qab qcc.out _) 0).trans rfl, (qai (qab qcc.out _) 1).trans rfl, (qai (qab qcc.out _) 2).trans rfl, (qai (qab qcc.out _) 3).trans rfl, (qai (qab qcc.out _) 4).trans rfl, (qai (qab qcc.out _) 5).trans rfl⟩ (fun hHeld => ?_); clear hK K; refine qd7 (a' := ?_) ?_ ?_
               rotate_left
               ·
                show Act.put _ (some 80) _ = _
                simp only [Act.put, List.setIfInBounds_toArray, List.set_cons_zero, List.set_cons_succ, qaM, qaR]
                rfl
               refine one_ (i := 3) (N := some 81) #[true, true, true, true, true, false, false] rfl rfl (by kernel_rfl) (by decide) (fun K hK => ?_); refine Kd.R_append_step (Kd.int .i64) (w0 := w) w.heap.size (by rfl) (.tmp 78) (.tmp 80) 37 3 (.int .i64 0) 8 rfl Try.underlying37 qiw rfl (by decide) (by omega) u13 qdO t171 [.int .i64 t171] (fun k_ => (w.heap.size ≤ k_)) (fun _ => False) rfl rfl ?aP (fun _ hk => hk.elim) ?aF ?aO ?aB ?aS ?aL ?_
               (case aP => exact rfl)
               (case aB => exact (by repeat (first | (with_reducible first | exact HB.out | apply qaf | apply qad | apply qah | refine qag ?_ qcu.out | refine qag ?_ qcB.out | refine qag ?_ qfb.out | refine qag ?_ qgE.out) | exact HB.out)))
               (case aF => exact (fun k_ hk => (Nat.le_trans (qam (by repeat (first | (with_reducible first | exact HB.out | apply qaf | apply qad | apply qah | refine qag ?_ qcu.out | refine qag ?_ qcB.out | refine qag ?_ qfb.out | refine qag ?_ qgE.out) | exact HB.out))) hk)))
               (case aO => exact (by (with_reducible repeat (first | apply Kd.R_alloc | apply Kd.R_drewN | apply Kd.R_drew)); exact HO_13.out))
               (case aS => exact (qam (by repeat (first | (with_reducible first | exact HB.out | apply qaf | apply qad | apply qah | refine qag ?_ qcu.out | refine qag ?_ qcB.out | refine qag ?_ qfb.out | refine qag ?_ qgE.out) | exact HB.out))))
               (case aL => have := quB.out; omega)
               intro v180 w59 ho hb hg hat; rw [← quC.out] at ho; have n0_ := qaa.mk (qd6 (g := qct) (o := .cells #[.slice A0_0 l0_0.length c0_0, .slice A0_1 l0_1.length c0_1, .slice A0_2 l0_2.length c0_2, .int .i64 a0_3, .int .i64 a0_4] 39 (0, 0)) (by (with_reducible repeat (first | refine qac ?_ _ | refine qae ?_ | refine qab ?_ _)); exact qbl.out) hg (Kd.R_ne HO_13.out qbl.out (by decide))); have n1_ := qaa.mk (qd6 (g := qbt) (o := .cells #[.slice A0_0 l0_0.length c0_0, .slice A0_1 l0_1.length c0_1, .slice A0_2 l0_2.length c0_2, .int .i64 a0_3, .int .i64 a0_4] 111 (0, 0)) (by (with_reducible repeat (first | refine qac ?_ _ | refine qae ?_ | refine qab ?_ _)); exact qaL.out) hg (Kd.R_ne HO_13.out qaL.out (by decide))); have n2_ := qaa.mk (qd6 (g := qa7) (o := .cells #[.int .i64 qcx, .int .i64 qcp, .int .i64 qcj, .int .i64 qcb, .int .i64 qb9, .int .i64 qb0] 115 (0, 0)) (by (with_reducible repeat (first | refine qac ?_ _ | refine qae ?_ | refine qab ?_ _)); exact qbd.out) hg (Kd.R_ne HO_13.out qbd.out (by decide))); have n3_ := qaa.mk (qd6 (g := qaC) (o := .cells #[.int .i64 t172, .int .i64 t173, .int .i64 t174, .int .i64 t175, .int .i64 t176, .int .i64 t177] 115 (0, 0)) (by (with_reducible repeat (first | refine qac ?_ _ | refine qae ?_ | refine qab ?_ _)); exact qcc.out) hg (Kd.R_ne HO_13.out qcc.out (by decide))); have n4_ := qaa.mk (hb); have n5_ := qaa.mk (ho); clear qbl qaL qbd qcc HB HO_13; have qbl := n0_; have qaL := n1_; have qbd := n2_; have qcc := n3_; have HB := n4_; have quD := n5_; clear n0_ n1_ n2_ n3_ n4_ n5_ ho hb hg hat; refine hK.out _ _ ⟨(qai qcc.out 0).trans rfl, (qai qcc.out 1).trans rfl, (qai qcc.out 2).trans rfl, (qai qcc.out 3).trans rfl, (qai qcc.out 4).trans rfl, (qai qcc.out 5).trans rfl⟩ (fun hHeld => ?_); clear hK K; refine qd7 (a' := ?_) ?_ ?_
               rotate_left
               ·
                show Act.put _ (some 81) _ = _
                simp only [Act.put, List.setIfInBounds_toArray, List.set_cons_zero, List.set_cons_succ, qaM, qaR]
                rfl
               refine qbp (i := 5) (N := some 13) (v := ?_) (a' := ?_) #[true, true, true, true, true, true, false] rfl rfl (by kernel_rfl) (fun _ _ _ h => h) (Or.inl ⟨by rfl, ?_⟩) ?_ ?_
               rotate_left
               ·
                intro w'
                go_simp
                with_reducible rfl
               rotate_left
               ·
                simp only [Act.put, List.setIfInBounds_toArray, List.set_cons_zero, List.set_cons_succ, qaM, qaR]
                rfl
               refine one_ (i := 6) (N := none) #[true, true, true, true, true, true, true] rfl rfl (by kernel_rfl) (by decide) (fun K hK => ?_); have hs60 : w59.cell? ⟨qa7, 0, none⟩ = some (.int .i64 qcx) := (qai qbd.out 0).trans rfl; have qDD := qaj qbd.out 0; have qx9 := qcV.out; have qya := qcW.out; have qyb := qba.out; have qyc := qfT.out; have qyd := qfU.out; have qye := qa3.out; have hs61 : w59.cell? ⟨qa7, 1, none⟩ = some (.int .i64 qcp) := (qai qbd.out 1).trans rfl; have qDE := qaj qbd.out 1; have qyf := qcV.out; have qyg := qcW.out; have qyh := qba.out; have qyi := qfT.out; have qyj := qfU.out; have qyk := qa3.out; have hs62 : w59.cell? ⟨qa7, 2, none⟩ = some (.int .i64 qcj) := (qai qbd.out 2).trans rfl; have qDF := qaj qbd.out 2; have qyl := qcV.out; have qym := qcW.out; have qyn := qba.out; have qyo := qfT.out; have qyp := qfU.out; have qyq := qa3.out; have hs63 : w59.cell? ⟨qa7, 3, none⟩ = some (.int .i64 qcb) := (qai qbd.out 3).trans rfl; have qDG := qaj qbd.out 3; have qyr := qcV.out; have qys := qcW.out; have qyt := qba.out; have qyu := qfT.out; have qyv := qfU.out; have qyw := qa3.out; have hs64 : w59.cell? ⟨qa7, 4, none⟩ = some (.int .i64 qb9) := (qai qbd.out 4).trans rfl; have qDH := qaj qbd.out 4; have qyx := qcV.out; have qyy := qcW.out; have qyz := qba.out; have qyA := qfT.out; have qyB := qfU.out; have qyC := qa3.out; have hs65 : w59.cell? ⟨qa7, 5, none⟩ = some (.int .i64 qb0) := (qai qbd.out 5).trans rfl; have qDI := qaj qbd.out 5; have qyD := qcV.out; have qyE := qcW.out; have qyF := qba.out; have qyG := qfT.out; have qyH := qfU.out; have qyI := qa3.out; refine qiv (w1 := ?_) (by rfl) rfl ?_ ?_
               rotate_left
               ·
                go_simp
                rfl
               refine hK.out _ _ ⟨((qaq (p := ⟨qa7, _, none⟩) qba.out _).trans (((qaq (p := ⟨qa7, _, none⟩) qba.out _).trans (((qaq (p := ⟨qa7, _, none⟩) qba.out _).trans (((qaq (p := ⟨qa7, _, none⟩) qba.out _).trans (((qaq (p := ⟨qa7, _, none⟩) qba.out _).trans (((qaq (p := ⟨qa7, _, none⟩) qba.out _).trans (hHeld.1)))))))))))), ((qaq (p := ⟨qa7, _, none⟩) qba.out _).trans (((qaq (p := ⟨qa7, _, none⟩) qba.out _).trans (((qaq (p := ⟨qa7, _, none⟩) qba.out _).trans (((qaq (p := ⟨qa7, _, none⟩) qba.out _).trans (((qaq (p := ⟨qa7, _, none⟩) qba.out _).trans (((qaq (p := ⟨qa7, _, none⟩) qba.out _).trans (hHeld.2.1)))))))))))), ((qaq (p := ⟨qa7, _, none⟩) qba.out _).trans (((qaq (p := ⟨qa7, _, none⟩) qba.out _).trans (((qaq (p := ⟨qa7, _, none⟩) qba.out _).trans (((qaq (p := ⟨qa7, _, none⟩) qba.out _).trans (((qaq (p := ⟨qa7, _, none⟩) qba.out _).trans (((qaq (p := ⟨qa7, _, none⟩) qba.out _).trans (hHeld.2.2.1)))))))))))), ((qaq (p := ⟨qa7, _, none⟩) qba.out _).trans (((qaq (p := ⟨qa7, _, none⟩) qba.out _).trans (((qaq (p := ⟨qa7, _, none⟩) qba.out _).trans (((qaq (p := ⟨qa7, _, none⟩) qba.out _).trans (((qaq (p := ⟨qa7, _, none⟩) qba.out _).trans (((qaq (p := ⟨qa7, _, none⟩) qba.out _).trans (hHeld.2.2.2.1)))))))))))), ((qaq (p := ⟨qa7, _, none⟩) qba.out _).trans (((qaq (p := ⟨qa7, _, none⟩) qba.out _).trans (((qaq (p := ⟨qa7, _, none⟩) qba.out _).trans (((qaq (p := ⟨qa7, _, none⟩) qba.out _).trans (((qaq (p := ⟨qa7, _, none⟩) qba.out _).trans (((qaq (p := ⟨qa7, _, none⟩) qba.out _).trans (hHeld.2.2.2.2.1)))))))))))), ((qaq (p := ⟨qa7, _, none⟩) qba.out _).trans (((qaq (p := ⟨qa7, _, none⟩) qba.out _).trans (((qaq (p := ⟨qa7, _, none⟩) qba.out _).trans (((qaq (p := ⟨qa7, _, none⟩) qba.out _).trans (((qaq (p := ⟨qa7, _, none⟩) qba.out _).trans (((qaq (p := ⟨qa7, _, none⟩) qba.out _).trans (hHeld.2.2.2.2.2))))))))))))⟩ (fun hHeld => ?_); clear hK K; refine qhv (by kernel_rfl) ?_
               try go_wp2
               go_roundg k4
               case measure => have := HJ3.out; have := HK2.out; have := HJ22.out; have := HK4.out; omega
               case rel => exact ⟨(y179), (wrap64 (qcG + 1)), (t172), (t173), (t174), (t175), (t176), (t177), (by first | rfl | (simp; done) | (simp [*]; done)), H', ⟨by have := HJ3.out; have := HK2.out; have := HJ22.out; have := HK4.out; omega⟩, ⟨by (with_reducible repeat (first | apply Kd.R_alloc | apply Kd.R_drewN | apply Kd.R_drew)); exact Kd.R_mono (Kd.R_far (p := ⟨qa7, 5, none⟩) (Kd.R_far (p := ⟨qa7, 4, none⟩) (Kd.R_far (p := ⟨qa7, 3, none⟩) (Kd.R_far (p := ⟨qa7, 2, none⟩) (Kd.R_far (p := ⟨qa7, 1, none⟩) (Kd.R_far (p := ⟨qa7, 0, none⟩) (Kd.R_types quD.out qbd.out (by decide)) (fun _ hk => hk.2) (.int .i64 t172)) (fun _ hk => hk.2) (.int .i64 t173)) (fun _ hk => hk.2) (.int .i64 t174)) (fun _ hk => hk.2) (.int .i64 t175)) (fun _ hk => hk.2) (.int .i64 t176)) (fun _ hk => hk.2) (.int .i64 t177)) (fun _ hk => hk.1)⟩, ⟨by (with_reducible repeat (first | refine qac ?_ _ | refine qae ?_ | refine qab ?_ _)); refine qao ?_ qcV.out _; (with_reducible repeat (first | refine qac ?_ _ | refine qae ?_ | refine qab ?_ _)); refine qao ?_ qcV.out _; (with_reducible repeat (first | refine qac ?_ _ | refine qae ?_ | refine qab ?_ _)); refine qao ?_ qcV.out _; (with_reducible repeat (first | refine qac ?_ _ | refine qae ?_ | refine qab ?_ _)); refine qao ?_ qcV.out _; (with_reducible repeat (first | refine qac ?_ _ | refine qae ?_ | refine qab ?_ _)); refine qao ?_ qcV.out _; (with_reducible repeat (first | refine qac ?_ _ | refine qae ?_ | refine qab ?_ _)); refine qao ?_ qcV.out _; (with_reducible repeat (first | refine qac ?_ _ | refine qae ?_ | refine qab ?_ _)); exact qbl.out⟩, ⟨by (with_reducible repeat (first | refine qac ?_ _ | refine qae ?_ | refine qab ?_ _)); refine qao ?_ qcW.out _; (with_reducible repeat (first | refine qac ?_ _ | refine qae ?_ | refine qab ?_ _)); refine qao ?_ qcW.out _; (with_reducible repeat (first | refine qac ?_ _ | refine qae ?_ | refine qab ?_ _)); refine qao ?_ qcW.out _; (with_reducible repeat (first | refine qac ?_ _ | refine qae ?_ | refine qab ?_ _)); refine qao ?_ qcW.out _; (with_reducible repeat (first | refine qac ?_ _ | refine qae ?_ | refine qab ?_ _)); refine qao ?_ qcW.out _; (with_reducible repeat (first | refine qac ?_ _ | refine qae ?_ | refine qab ?_ _)); refine qao ?_ qcW.out _; (with_reducible repeat (first | refine qac ?_ _ | refine qae ?_ | refine qab ?_ _)); exact qaL.out⟩, ⟨by (with_reducible repeat (first | refine qac ?_ _ | refine qae ?_ | refine qab ?_ _)); refine qaw (cs := #[.int .i64 t172, .int .i64 t173, .int .i64 t174, .int .i64 t175, .int .i64 t176, .int .i64 qb0]) ?_ 5 _ rfl; (with_reducible repeat (first | refine qac ?_ _ | refine qae ?_ | refine qab ?_ _)); refine qaw (cs := #[.int .i64 t172, .int .i64 t173, .int .i64 t174, .int .i64 t175, .int .i64 qb9, .int .i64 qb0]) ?_ 4 _ rfl; (with_reducible repeat (first | refine qac ?_ _ | refine qae ?_ | refine qab ?_ _)); refine qaw (cs := #[.int .i64 t172, .int .i64 t173, .int .i64 t174, .int .i64 qcb, .int .i64 qb9, .int .i64 qb0]) ?_ 3 _ rfl; (with_reducible repeat (first | refine qac ?_ _ | refine qae ?_ | refine qab ?_ _)); refine qaw (cs := #[.int .i64 t172, .int .i64 t173, .int .i64 qcj, .int .i64 qcb, .int .i64 qb9, .int .i64 qb0]) ?_ 2 _ rfl; (with_reducible repeat (first | refine qac ?_ _ | refine qae ?_ | refine qab ?_ _)); refine qaw (cs := #[.int .i64 t172, .int .i64 qcp, .int .i64 qcj, .int .i64 qcb, .int .i64 qb9, .int .i64 qb0]) ?_ 1 _ rfl; (with_reducible repeat (first | refine qac ?_ _ | refine qae ?_ | refine qab ?_ _)); refine qaw (cs := #[.int .i64 qcx, .int .i64 qcp, .int .i64 qcj, .int .i64 qcb, .int .i64 qb9, .int .i64 qb0]) ?_ 0 _ rfl; (with_reducible repeat (first | refine qac ?_ _ | refine qae ?_ | refine qab ?_ _)); exact qbd.out⟩, ⟨by repeat (first | (with_reducible first | exact HB.out | apply qaf | apply qad | apply qah | refine qag ?_ qcu.out | refine qag ?_ qcB.out | refine qag ?_ qfb.out | refine qag ?_ qgE.out) | exact HB.out)⟩⟩
              rw [if_neg c46] at H
              exact absurd H (by simp)
             rw [if_neg c44] at H
             exact absurd H (by simp)
            rw [if_neg c43] at H
            exact absurd H (by simp)
           rw [if_neg c42] at H
           exact absurd H (by simp)
          rw [if_neg c41] at H; have c41b0 : decide (qcG < (l1.length : Int)) = false := decide_eq_false c41; clear c41
          by_cases c66 : 0 ≤ (qdO.length : Int)
          ·
           rw [if_pos c66] at H; have c66b0 := eq_true c66; have c66b1 : decide (0 ≤ (qdO.length : Int)) = true := decide_eq_true c66; clear c66
           by_cases c67 : (qdO.length : Int) ≤ (qdO.length : Int)
           ·
            rw [if_pos c67] at H; have c67b0 := eq_true c67; have c67b1 : decide ((qdO.length : Int) ≤ (qdO.length : Int)) = true := decide_eq_true c67; clear c67; obtain ⟨y182, qlo⟩ : ∃ y_ : List Int, y_ = (qdO.take ((qdO.length : Int) : Int).toNat) := ⟨_, rfl⟩
            replace H : (some (y182, 0)) = some (r1, r2) := by first | (rw [qlo]; with_reducible exact H) | (have H2_ := (Option.bind_some _ _).symm.trans H; rw [qlo]; with_reducible exact H2_) | (have H2_ := (Option.bind_some _ _).symm.trans H; with_reducible exact H2_) | with_reducible exact H | (rw [qlo]; exact H) | exact H
            have qqF := qaa.mk qlo; clear qlo; simp only [Option.some.injEq, Prod.mk.injEq] at H; obtain ⟨rfl, rfl⟩ := H; obtain ⟨Ao68, co68, eo68⟩ := Kd.R_slice HO_13.out; subst eo68; have q69 : ((qdO.length : Int) : Int) ≤ ((qdO.length : Int) : Int) := of_decide_eq_true (by first | (with_reducible assumption) | assumption); obtain ⟨i069, qqG, _, quE, _⟩ := info_parts qiw; have qB9 := qhH (P := Try.prog) 37 3 Try.underlying37 qqG Ao68 qdO.length co68 (Kd.R_reads' HO_13.out).2.1; have hr69 := Kd.R_take (m := ((qdO.length : Int) : Int).toNat) HO_13.out (by omega); have hy69 : y182.length = ((qdO.length : Int) : Int).toNat := (by rw [qqF.out, List.length_take]; omega); rw [← qqF.out] at hr69
            have hy70 : qdO.length = y182.length := by rw [hy69]; omega
            have HY70 := qaa.mk hy70; clear hy69 hy70 qqG quE HO_13; have quF := qaa.mk hr69; clear hr69; replace q69 := eq_true q69
            go_wp2
            go_ret2
            exact ⟨_, by first | rfl | (simp [qaG, qaH] <;> rfl) | (simp [*, qaG, qaH] <;> rfl), qpJ (by (with_reducible repeat (first | apply Kd.R_alloc | apply Kd.R_drewN | apply Kd.R_drew)); exact quF.out) _ HY70.out, by repeat (first | (with_reducible first | exact HB.out | apply qaf | apply qad | apply qah | refine qag ?_ qcu.out | refine qag ?_ qcB.out | refine qag ?_ qfb.out) | exact HB.out)⟩
           rw [if_neg c67] at H
           exact absurd H (by simp)
          rw [if_neg c66] at H
          exact absurd H (by simp)
       replace c32 := Bool.eq_false_iff.mpr c32; subst c32
       have H1 : (some (([] : List Int), 92)) = some (r1, r2) := by rw [if_neg (show ¬ (false = true) by decide)] at H; exact H
       clear H; have H := H1; clear H1; simp only [Option.some.injEq, Prod.mk.injEq] at H; obtain ⟨rfl, rfl⟩ := H
       go_wp2
       go_ret2
       exact ⟨_, by first | rfl | (simp [qaG, qaH] <;> rfl) | (simp [*, qaG, qaH] <;> rfl), (by first | exact Kd.V_nil _ _ _ _ _ | (show Kd.V _ _ _ _ _ (.slice none 0 0) []; exact Kd.V_nil _ _ _ _ _)), by repeat (first | (with_reducible first | exact HB.out | apply qaf | apply qad | apply qah | refine qag ?_ qcu.out | refine qag ?_ qcB.out) | exact HB.out)⟩
end Go.Proofs.Ytmhomdohhihlcaa.P
namespace Go.Proofs.Ytmhomdohhihlcaa.P
open Go.RowKit Go.Proofs.YtmhomdohhihlcaaW.PrintWords Go.Proofs.YtmhomdohhihlcaaW.PrintLast Go.Proofs.YtmhomdohhihlcaaW.PrintMore
attribute [local go_sem] qb7 qb6 qcr qcq qbR qbS qb8 qb4
def qcm.l0 : Nat → List Int → List Int → Int → Option (Bool)
 | 0, _, _, _ => none
 | k + 1, x0, x1, x5 => if x5 < (x0.length : Int) then (if 0 ≤ x5 then (if x5 < (x1.length : Int) then (if (rd x0 x5) = (rd x1 x5) then (qcm.l0 k x0 x1 (wrap64 (x5 + 1))) else (some false)) else (none)) else (none)) else (some true)
def qcm.f (k : Nat) (l0 : List Int) (l1 : List Int) : Option (Bool) := if (l0.length : Int) = (l1.length : Int) then (qcm.l0 k l0 l1 0) else (some false)
set_option maxHeartbeats 8000000 in
set_option maxRecDepth 100000 in
theorem qcm.calls (k : Nat) (A0 : Option Addr) (c0 : Nat) (l0 : List Int) (A1 : Option Addr) (c1 : Nat) (l1 : List Int) (r : Bool) (w : World) (hr0 : Kd.C (Kd.int .i64) w A0 l0.length l0) (hc0 : l0.length ≤ c0) (hr1 : Kd.C (Kd.int .i64) w A1 l1.length l1) (hc1 : l1.length ≤ c1) (h : qcm.f k l0 l1 = some r) :
  Calls Try.prog 27 #[.slice A0 l0.length c0, .slice A1 l1.length c1] w fun e w' => e = .returned (.bool r) ∧ qbz w w' := by
 have HR0 := qaa.mk hr0
 have HC0 := qaa.mk hc0
 clear hr0 hc0
 have HR1 := qaa.mk hr1
 have HC1 := qaa.mk hc1
 clear hr1 hc1
 have H : (if (l0.length : Int) = (l1.length : Int) then (qcm.l0 k l0 l1 0) else (some false)) = some r := h
 clear h
 by_cases c3 : (l0.length : Int) = (l1.length : Int)
 ·
  rw [if_pos c3] at H
  have c3b0 : ((l0.length : Int) == (l1.length : Int)) = true := beq_iff_eq.mpr c3
  have c3b1 : ((l0.length : Int) != (l1.length : Int)) = false := bne_eq_false_iff_eq.mpr c3
  have c3b2 : (l0.length == l1.length) = true := by first | simpa using c3 | (simp at c3 ⊢; omega)
  clear c3
  have H' := qaa.mk H
  clear H
  go_enter Try.func27, Try.ntmps27
  go_wp2
  repeat (go_quiet (fail); try go_wp2)
  go_loopg [5] k (fun kq v5 w' => ∃ (x5_1 : Int), v5 = .int .i64 x5_1 ∧ qaa (qcm.l0 kq l0 l1 x5_1 = some r) ∧ qaa (kq ≤ k) ∧ qbz w w')
  case atStart => exact ⟨(0), (by first | rfl | (simp; done) | (simp [*]; done)), H', ⟨Nat.le_refl _⟩, by repeat (first | exact qbz.refl _ | apply qbz.step)⟩
  case round =>
   clear H'
   try clear c1
   try clear c2
   try clear p2
   try clear c3
   try clear c3b0
   try clear c3b1
   try clear c3b2
   obtain ⟨x5_1, rfl, HA, HK1, ⟨m1, rfl⟩⟩ := hrel
   cases gk with
   | zero => exact absurd HA.out (by simp [qcm.l0])
   | succ k1 =>
    have H := HA.out; clear HA; simp only [qcm.l0] at H
    by_cases c4 : x5_1 < (l0.length : Int)
    ·
     rw [if_pos c4] at H; have c4b0 : decide (x5_1 < (l0.length : Int)) = true := decide_eq_true c4; clear c4
     by_cases c5 : 0 ≤ x5_1
     ·
      rw [if_pos c5] at H; have c5b0 : decide (0 ≤ x5_1) = true := decide_eq_true c5; clear c5
      by_cases c6 : x5_1 < (l1.length : Int)
      ·
       rw [if_pos c6] at H; have c6b0 : decide (x5_1 < (l1.length : Int)) = true := decide_eq_true c6; clear c6
       by_cases c7 : (rd l0 x5_1) = (rd l1 x5_1)
       ·
        rw [if_pos c7] at H; have c7b0 : ((rd l0 x5_1) == (rd l1 x5_1)) = true := beq_iff_eq.mpr c7; have c7b1 : ((rd l0 x5_1) != (rd l1 x5_1)) = false := bne_eq_false_iff_eq.mpr c7; clear c7; have H' := qaa.mk H; clear H; have p185 : 0 ≤ (x5_1 : Int) := of_decide_eq_true (by first | (with_reducible assumption) | assumption); have q185 : x5_1 < (l0.length : Int) := of_decide_eq_true (by first | (with_reducible assumption) | assumption); obtain ⟨quG, e185, qsz⟩ := Kd.at_int HR0.out x5_1 p185 q185; cases e185; replace p185 := eq_true p185; replace q185 := eq_true q185; have p186 : 0 ≤ (x5_1 : Int) := of_decide_eq_true (by first | (with_reducible assumption) | assumption); have q186 : x5_1 < (l1.length : Int) := of_decide_eq_true (by first | (with_reducible assumption) | assumption); obtain ⟨quH, e186, qsA⟩ := Kd.at_int HR1.out x5_1 p186 q186; cases e186; replace p186 := eq_true p186; replace q186 := eq_true q186
        go_wp2
        repeat (go_quiet (fail); try go_wp2)
        go_roundg k1
        case measure => have := HK1.out; omega
        case rel => exact ⟨(wrap64 (x5_1 + 1)), (by first | rfl | (simp; done) | (simp [*]; done)), H', ⟨by have := HK1.out; omega⟩, by repeat (first | exact qbz.refl _ | apply qbz.step)⟩
       rw [if_neg c7] at H; have c7b0 : ((rd l0 x5_1) == (rd l1 x5_1)) = false := beq_eq_false_iff_ne.mpr c7; have c7b1 : ((rd l0 x5_1) != (rd l1 x5_1)) = true := bne_iff_ne.mpr c7; obtain rfl := Option.some.inj H; have p185 : 0 ≤ (x5_1 : Int) := of_decide_eq_true (by first | (with_reducible assumption) | assumption); have q185 : x5_1 < (l0.length : Int) := of_decide_eq_true (by first | (with_reducible assumption) | assumption); obtain ⟨quG, e185, qsz⟩ := Kd.at_int HR0.out x5_1 p185 q185; cases e185; replace p185 := eq_true p185; replace q185 := eq_true q185; have p186 : 0 ≤ (x5_1 : Int) := of_decide_eq_true (by first | (with_reducible assumption) | assumption); have q186 : x5_1 < (l1.length : Int) := of_decide_eq_true (by first | (with_reducible assumption) | assumption); obtain ⟨quH, e186, qsA⟩ := Kd.at_int HR1.out x5_1 p186 q186; cases e186; replace p186 := eq_true p186; replace q186 := eq_true q186
       go_wp2
       repeat (go_quiet (fail); try go_wp2)
       go_ret
       exact ⟨by first | rfl | (simp; done) | (simp [*]; done), by repeat (first | exact qbz.refl _ | apply qbz.step)⟩
      rw [if_neg c6] at H
      exact absurd H (by simp)
     rw [if_neg c5] at H
     exact absurd H (by simp)
    rw [if_neg c4] at H; have c4b0 : decide (x5_1 < (l0.length : Int)) = false := decide_eq_false c4; clear c4; obtain rfl := Option.some.inj H
    go_wp2
    repeat (go_quiet (fail); try go_wp2)
    go_ret
    exact ⟨by first | rfl | (simp; done) | (simp [*]; done), by repeat (first | exact qbz.refl _ | apply qbz.step)⟩
 rw [if_neg c3] at H
 have c3b0 : ((l0.length : Int) == (l1.length : Int)) = false := beq_eq_false_iff_ne.mpr c3
 have c3b1 : ((l0.length : Int) != (l1.length : Int)) = true := bne_iff_ne.mpr c3
 have c3b2 : (l0.length == l1.length) = false := by first | simpa using c3 | (simp at c3 ⊢; omega)
 obtain rfl := Option.some.inj H
 go_enter Try.func27, Try.ntmps27
 go_wp2
 repeat (go_quiet (fail); try go_wp2)
 go_ret
 exact ⟨by first | rfl | (simp; done) | (simp [*]; done), by repeat (first | exact qbz.refl _ | apply qbz.step)⟩
end Go.Proofs.Ytmhomdohhihlcaa.P
namespace Go.Proofs.Ytmhomdohhihlcaa.P
open Go.RowKit Go.Proofs.YtmhomdohhihlcaaW.PrintWords Go.Proofs.YtmhomdohhihlcaaW.PrintLast Go.Proofs.YtmhomdohhihlcaaW.PrintMore
attribute [local go_sem] qb7 qb6 qcr qcq qbR qbS qb8 qb4
mutual
def qav.j0 : Nat → Int → Bool → List (S39) → List Int → List (List (List Int)) → Option (Int)
 | 0, _, _, _, _, _ => none
 | k + 1, x3, x4, qcA, qcQ, qcH => qav.l0 k x3 x4 0 qcA qcQ qcH
def qav.l0 : Nat → Int → Bool → Int → List (S39) → List Int → List (List (List Int)) → Option (Int)
 | 0, _, _, _, _, _, _ => none
 | k + 1, x3, x4, x5, qcA, qcQ, qcH => if x4 = true then (qav.j2 k x3 x4 x5 (decide (x5 < x3)) qcA qcQ qcH) else (qav.j2 k x3 x4 x5 false qcA qcQ qcH)
def qav.j2 : Nat → Int → Bool → Int → Bool → List (S39) → List Int → List (List (List Int)) → Option (Int)
 | 0, _, _, _, _, _, _, _ => none
 | k + 1, x3, x4, x5, x35, qcA, qcQ, qcH => if x35 = true then (if 0 ≤ x5 then (if x5 < (qcA.length : Int) then ((qat.f k ((qak qcA x5).f0) ((qak qcA x5).f1) ((qak qcA x5).f2) ((qak qcA x5).f3) ((qak qcA x5).f4)).bind fun t191 => (if t191 = true then (if x5 < (qcQ.length : Int) then ((qas.f (rd qcQ x5) 0 100).bind fun t193 => (qav.l0 k x3 t193 (wrap64 (x5 + 1)) qcA qcQ qcH)) else (none)) else (qav.l0 k x3 false (wrap64 (x5 + 1)) qcA qcQ qcH))) else (none)) else (none)) else (qav.l1 k x3 x4 qcH (qcH.length : Int) 0 qcA qcQ qcH)
def qav.l1 : Nat → Int → Bool → List (List (List Int)) → Int → Int → List (S39) → List Int → List (List (List Int)) → Option (Int)
 | 0, _, _, _, _, _, _, _, _ => none
 | k + 1, x3, x4, x54, x55, x56, qcA, qcQ, qcH => if x56 < x55 then (if 0 ≤ x56 then (if x56 < (x54.length : Int) then (if x4 = true then (qav.j4 k x3 (((qaB x54 x56).length : Int) == x3) (qaB x54 x56) x54 x55 x56 qcA qcQ qcH) else (qav.j4 k x3 false (qaB x54 x56) x54 x55 x56 qcA qcQ qcH)) else (none)) else (none)) else (if x4 = true then (some 0) else (some 93))
def qav.j4 : Nat → Int → Bool → List (List Int) → List (List (List Int)) → Int → Int → List (S39) → List Int → List (List (List Int)) → Option (Int)
 | 0, _, _, _, _, _, _, _, _, _ => none
 | k + 1, x3, x4, x7, x54, x55, x56, qcA, qcQ, qcH => qav.l2 k x3 x4 x54 x55 x56 x7 (x7.length : Int) 0 qcA qcQ qcH
def qav.l2 : Nat → Int → Bool → List (List (List Int)) → Int → Int → List (List Int) → Int → Int → List (S39) → List Int → List (List (List Int)) → Option (Int)
 | 0, _, _, _, _, _, _, _, _, _, _, _ => none
 | k + 1, x3, x4, x54, x55, x56, x67, x68, x69, qcA, qcQ, qcH => if x69 < x68 then (if 0 ≤ x69 then (if x69 < (x67.length : Int) then (if x4 = true then ((qas.f ((qaT x67 x69).length : Int) 1 10).bind fun t196 => (if t196 = true then (if 0 < (qcH.length : Int) then (if 0 < ((qaB qcH 0).length : Int) then (qav.j6 k x3 (((qaT x67 x69).length : Int) == ((qaT (qaB qcH 0) 0).length : Int)) (qaT x67 x69) x54 x55 x56 x67 x68 x69 qcA qcQ qcH) else (none)) else (none)) else (qav.j6 k x3 false (qaT x67 x69) x54 x55 x56 x67 x68 x69 qcA qcQ qcH))) else (qav.j6 k x3 false (qaT x67 x69) x54 x55 x56 x67 x68 x69 qcA qcQ qcH)) else (none)) else (none)) else (qav.l1 k x3 x4 x54 x55 (wrap64 (x56 + 1)) qcA qcQ qcH)
def qav.j6 : Nat → Int → Bool → List Int → List (List (List Int)) → Int → Int → List (List Int) → Int → Int → List (S39) → List Int → List (List (List Int)) → Option (Int)
 | 0, _, _, _, _, _, _, _, _, _, _, _, _ => none
 | k + 1, x3, x4, x9, x54, x55, x56, x67, x68, x69, qcA, qcQ, qcH => qav.l3 k x3 x4 x54 x55 x56 x67 x68 x69 x9 (x9.length : Int) 0 qcA qcQ qcH
def qav.l3 : Nat → Int → Bool → List (List (List Int)) → Int → Int → List (List Int) → Int → Int → List Int → Int → Int → List (S39) → List Int → List (List (List Int)) → Option (Int)
 | 0, _, _, _, _, _, _, _, _, _, _, _, _, _, _ => none
 | k + 1, x3, x4, x54, x55, x56, x67, x68, x69, x91, x92, x93, qcA, qcQ, qcH => if x93 < x92 then (if 0 ≤ x93 then (if x93 < (x91.length : Int) then (if x4 = true then ((qas.f (rd x91 x93) 0 100000).bind fun t200 => (qav.l3 k x3 t200 x54 x55 x56 x67 x68 x69 x91 x92 (wrap64 (x93 + 1)) qcA qcQ qcH)) else (qav.l3 k x3 false x54 x55 x56 x67 x68 x69 x91 x92 (wrap64 (x93 + 1)) qcA qcQ qcH)) else (none)) else (none)) else (qav.l2 k x3 x4 x54 x55 x56 x67 x68 (wrap64 (x69 + 1)) qcA qcQ qcH)
end
def qav.f (k : Nat) (l0_0 : List (S39)) (l0_1 : List Int) (l0_2 : List (List (List Int))) : Option (Int) := (qas.f (l0_0.length : Int) 1 3).bind fun t188 => (if t188 = true then (if (l0_1.length : Int) = (l0_0.length : Int) then ((qas.f (l0_2.length : Int) 1 6).bind fun t189 => (qav.j0 k (l0_0.length : Int) t189 l0_0 l0_1 l0_2)) else (qav.j0 k (l0_0.length : Int) false l0_0 l0_1 l0_2)) else (qav.j0 k (l0_0.length : Int) false l0_0 l0_1 l0_2))
set_option maxHeartbeats 8000000 in
set_option maxRecDepth 100000 in
theorem qav.calls (k : Nat) (A0_0 : Option Addr) (c0_0 : Nat) (l0_0 : List (S39)) (A0_1 : Option Addr) (c0_1 : Nat) (l0_1 : List Int) (A0_2 : Option Addr) (c0_2 : Nat) (l0_2 : List (List (List Int))) (r : Int) (w : World) (qdZ : Kd.C k39 w A0_0 l0_0.length l0_0) (qd8 : l0_0.length ≤ c0_0) (qd0 : Kd.C (Kd.int .i64) w A0_1 l0_1.length l0_1) (qd9 : l0_1.length ≤ c0_1) (qd1 : Kd.C (Kd.slice 37 (Kd.slice 3 (Kd.int .i64))) w A0_2 l0_2.length l0_2) (qea : l0_2.length ≤ c0_2) (h : qav.f k l0_0 l0_1 l0_2 = some r) :
  Calls Try.prog 30 #[.agg #[.slice A0_0 l0_0.length c0_0, .slice A0_1 l0_1.length c0_1, .slice A0_2 l0_2.length c0_2]] w fun e w' => e = .returned (.int .i64 r) ∧ Below w.heap.size w w' := by
 have hu47 := Try.underlying47
 have hu39 := Try.underlying39
 have qpl := Try.underlying111
 have qda := qaa.mk qdZ
 have qdt := qaa.mk qd8
 clear qdZ qd8
 have qde := qaa.mk qd0
 have qdu := qaa.mk qd9
 clear qd0 qd9
 have qdf := qaa.mk qd1
 have qdv := qaa.mk qea
 clear qd1 qea
 have HB := qaa.mk (Below.refl w.heap.size w)
 have H : ((qas.f (l0_0.length : Int) 1 3).bind fun t188 => (if t188 = true then (if (l0_1.length : Int) = (l0_0.length : Int) then ((qas.f (l0_2.length : Int) 1 6).bind fun t189 => (qav.j0 k (l0_0.length : Int) t189 l0_0 l0_1 l0_2)) else (qav.j0 k (l0_0.length : Int) false l0_0 l0_1 l0_2)) else (qav.j0 k (l0_0.length : Int) false l0_0 l0_1 l0_2))) = some r := h
 clear h
 have HC2 := qaa.mk H
 clear H
 go_enter Try.func30, Try.ntmps30
 go_upto_region 2 with (first | ((with_reducible refine qaN (N := 1) rfl ?_); (try (refine qed (by rfl) ?_; dsimp only)); refine qa9 ?hg (N := 1) ?hd (cs := #[.slice A0_0 l0_0.length c0_0, .slice A0_1 l0_1.length c0_1, .slice A0_2 l0_2.length c0_2]) (t := 47) ?hr ?_; (case hd => rfl); (case hg => rfl); (case hr => first | (go_simp; done) | (go_simp; rfl)); intro qcS hg w3 hbox hb; have n0_ := qaa.mk (qar (by repeat (first | (with_reducible first | exact HB.out | apply qaf | apply qad | apply qah) | exact HB.out)) hb); have n1_ := qaa.mk (hbox); have n2_ := qaa.mk ((by rw [hg]; exact (qam (by repeat (first | (with_reducible first | exact HB.out | apply qaf | apply qad | apply qah) | exact HB.out))) : w.heap.size ≤ qcS)); have n3_ := qaa.mk ((by rw [hg]; exact (qam (by repeat (first | (with_reducible first | exact HB.out | apply qaf | apply qad | apply qah) | exact HB.out))) : w.heap.size ≤ qcS)); clear HB; have HB := n0_; have qbk := n1_; have qDJ := n2_; have qdU := n3_; clear n0_ n1_ n2_ n3_; clear hb hbox hg; have qew : w3.cell? ⟨qcS, 0, none⟩ = some (.slice A0_0 l0_0.length c0_0) := (qai qbk.out 0).trans rfl; have qex : w3.cell? ⟨qcS, 1, none⟩ = some (.slice A0_1 l0_1.length c0_1) := (qai qbk.out 1).trans rfl; have qeL : w3.cell? ⟨qcS, 2, none⟩ = some (.slice A0_2 l0_2.length c0_2) := (qai qbk.out 2).trans rfl; have qey := qaj qbk.out 0; have qez := qaj qbk.out 1; have qeM := qaj qbk.out 2))
 (try simp only [Act.put, List.setIfInBounds_toArray, List.set_cons_zero, List.set_cons_succ])
 go_cut [4] (fun v4 wc => ∃ (kq : Nat) (x4_1 : Bool), v4 = .bool x4_1 ∧ qaa (qav.j0 kq (l0_0.length : Int) x4_1 l0_0 l0_1 l0_2 = some r) ∧ qaa (kq ≤ k) ∧ qaa (wc.heap[qcS]? = some (.cells #[(.slice A0_0 l0_0.length c0_0), (.slice A0_1 l0_1.length c0_1), (.slice A0_2 l0_2.length c0_2)] 47 (0, 0))) ∧ qaa (Below w.heap.size w wc))
 case first =>
  have H := HC2.out
  clear HC2
  replace H := Option.bind_eq_some_iff.mp H
  obtain ⟨t188, A50, H⟩ := H
  replace H : (if t188 = true then (if (l0_1.length : Int) = (l0_0.length : Int) then ((qas.f (l0_2.length : Int) 1 6).bind fun t189 => (qav.j0 k (l0_0.length : Int) t189 l0_0 l0_1 l0_2)) else (qav.j0 k (l0_0.length : Int) false l0_0 l0_1 l0_2)) else (qav.j0 k (l0_0.length : Int) false l0_0 l0_1 l0_2)) = some r := H
  have A5 := qaa.mk A50
  clear A50
  by_cases c6 : t188 = true
  ·
   subst c6
   have H1 : (if (l0_1.length : Int) = (l0_0.length : Int) then ((qas.f (l0_2.length : Int) 1 6).bind fun t189 => (qav.j0 k (l0_0.length : Int) t189 l0_0 l0_1 l0_2)) else (qav.j0 k (l0_0.length : Int) false l0_0 l0_1 l0_2)) = some r := by rw [if_pos rfl] at H; exact H
   clear H
   have H := H1
   clear H1
   by_cases c7 : (l0_1.length : Int) = (l0_0.length : Int)
   ·
    rw [if_pos c7] at H; have c7b0 : ((l0_1.length : Int) == (l0_0.length : Int)) = true := beq_iff_eq.mpr c7; have c7b1 : ((l0_1.length : Int) != (l0_0.length : Int)) = false := bne_eq_false_iff_eq.mpr c7
    have c7b2 : (l0_1.length == l0_0.length) = true := by first | simpa using c7 | (simp at c7 ⊢; omega)
    clear c7
    (first | rw [c7b0] | (simp only [qaM, qaR]; rw [c7b0]) | skip)
    replace H := Option.bind_eq_some_iff.mp H; obtain ⟨t189, A80, H⟩ := H; replace H : (qav.j0 k (l0_0.length : Int) t189 l0_0 l0_1 l0_2) = some r := H; have A8 := qaa.mk A80; clear A80; have H' := qaa.mk H; clear H
    go_wp2_with (first | ((with_reducible refine qaK (f := 65) rfl ?_); refine qbm (some 16) rfl rfl Try.func65 (by kernel_rfl) rfl #[.int .i64 (l0_0.length : Int), .int .i64 1, .int .i64 3] rfl (by (try simp only [List.map_toArray, List.map_cons, List.map_nil]); first | done | rfl | (simp only [List.length_drop, List.length_take]; rfl)) ?_; (with_reducible refine (qas.calls (l0_0.length : Int) 1 3 true _ A5.out).mono ?_); rintro e w' ⟨rfl, ⟨nd, rfl⟩⟩; refine ⟨_, rfl, ?_⟩; have qeA : w3.cell? ⟨qcS, 0, none⟩ = some (.slice A0_0 l0_0.length c0_0) := (qai qbk.out 0).trans rfl; have qeB : w3.cell? ⟨qcS, 1, none⟩ = some (.slice A0_1 l0_1.length c0_1) := (qai qbk.out 1).trans rfl; have qeN : w3.cell? ⟨qcS, 2, none⟩ = some (.slice A0_2 l0_2.length c0_2) := (qai qbk.out 2).trans rfl; have qeC := qaj qbk.out 0; have qeD := qaj qbk.out 1; have qeO := qaj qbk.out 2) | (go_at_call 65; (with_reducible refine (qas.calls (l0_2.length : Int) 1 6 t189 _ A8.out).mono ?_); rintro e w' ⟨rfl, ⟨nd, rfl⟩⟩))
    go_meet
    case rel => exact ⟨_, (t189), (by first | rfl | (simp; done) | (simp [*]; done)), H', ⟨by first | omega | exact Nat.le_refl _⟩, ⟨by (with_reducible repeat (first | refine qac ?_ _ | refine qae ?_ | refine qab ?_ _)); exact qbk.out⟩, ⟨by repeat (first | (with_reducible first | exact HB.out | apply qaf | apply qad | apply qah | refine qag ?_ qdU.out) | exact HB.out)⟩⟩
   rw [if_neg c7] at H
   have c7b0 : ((l0_1.length : Int) == (l0_0.length : Int)) = false := beq_eq_false_iff_ne.mpr c7
   have c7b1 : ((l0_1.length : Int) != (l0_0.length : Int)) = true := bne_iff_ne.mpr c7
   have c7b2 : (l0_1.length == l0_0.length) = false := by first | simpa using c7 | (simp at c7 ⊢; omega)
   (first | rw [c7b0] | (simp only [qaM, qaR]; rw [c7b0]) | skip)
   have H' := qaa.mk H
   clear H
   go_wp2_with (first | ((with_reducible refine qaK (f := 65) rfl ?_); refine qbm (some 16) rfl rfl Try.func65 (by kernel_rfl) rfl #[.int .i64 (l0_0.length : Int), .int .i64 1, .int .i64 3] rfl (by (try simp only [List.map_toArray, List.map_cons, List.map_nil]); first | done | rfl | (simp only [List.length_drop, List.length_take]; rfl)) ?_; (with_reducible refine (qas.calls (l0_0.length : Int) 1 3 true _ A5.out).mono ?_); rintro e w' ⟨rfl, ⟨nd, rfl⟩⟩; refine ⟨_, rfl, ?_⟩; have qen : w3.cell? ⟨qcS, 0, none⟩ = some (.slice A0_0 l0_0.length c0_0) := (qai qbk.out 0).trans rfl; have qeo : w3.cell? ⟨qcS, 1, none⟩ = some (.slice A0_1 l0_1.length c0_1) := (qai qbk.out 1).trans rfl; have qeX : w3.cell? ⟨qcS, 2, none⟩ = some (.slice A0_2 l0_2.length c0_2) := (qai qbk.out 2).trans rfl; have qep := qaj qbk.out 0; have qeq := qaj qbk.out 1; have qeY := qaj qbk.out 2))
   go_meet
   case rel => exact ⟨_, (false), (by first | rfl | (simp; done) | (simp [*]; done)), H', ⟨by first | omega | exact Nat.le_refl _⟩, ⟨by (with_reducible repeat (first | refine qac ?_ _ | refine qae ?_ | refine qab ?_ _)); exact qbk.out⟩, ⟨by repeat (first | (with_reducible first | exact HB.out | apply qaf | apply qad | apply qah | refine qag ?_ qdU.out) | exact HB.out)⟩⟩
  replace c6 := Bool.eq_false_iff.mpr c6
  subst c6
  have H1 : (qav.j0 k (l0_0.length : Int) false l0_0 l0_1 l0_2) = some r := by rw [if_neg (show ¬ (false = true) by decide)] at H; exact H
  clear H
  have H := H1
  clear H1
  have H' := qaa.mk H
  clear H
  go_wp2_with (first | ((with_reducible refine qaK (f := 65) rfl ?_); refine qbm (some 16) rfl rfl Try.func65 (by kernel_rfl) rfl #[.int .i64 (l0_0.length : Int), .int .i64 1, .int .i64 3] rfl (by (try simp only [List.map_toArray, List.map_cons, List.map_nil]); first | done | rfl | (simp only [List.length_drop, List.length_take]; rfl)) ?_; (with_reducible refine (qas.calls (l0_0.length : Int) 1 3 false _ A5.out).mono ?_); rintro e w' ⟨rfl, ⟨nd, rfl⟩⟩; refine ⟨_, rfl, ?_⟩))
  go_meet
  case rel => exact ⟨_, (false), (by first | rfl | (simp; done) | (simp [*]; done)), H', ⟨by first | omega | exact Nat.le_refl _⟩, ⟨by (with_reducible repeat (first | refine qac ?_ _ | refine qae ?_ | refine qab ?_ _)); exact qbk.out⟩, ⟨by repeat (first | (with_reducible first | exact HB.out | apply qaf | apply qad | apply qah | refine qag ?_ qdU.out) | exact HB.out)⟩⟩
 case rest =>
  clear HC2
  try clear p2
  try clear c3
  try clear c6
  try clear c7
  try clear c7b0
  try clear c7b1
  try clear c7b2
  try clear qen
  try clear qeo
  try clear qeX
  try clear qew
  try clear qex
  try clear qeL
  try clear qeA
  try clear qeB
  try clear qeN
  try clear qep
  try clear qeq
  try clear qeY
  try clear qey
  try clear qez
  try clear qeM
  try clear qeC
  try clear qeD
  try clear qeO
  obtain ⟨kq, x4_1, rfl, HA, HJ1, qbk, HB⟩ := hcut
  cases kq with
  | zero => exact absurd HA.out (by simp [qav.j0])
  | succ kj1 =>
   have H := HA.out
   clear HA
   simp only [qav.j0] at H
   have H' := qaa.mk H
   clear H
   go_wp2
   go_loopg [4, 5] kj1 (fun kq v4 v5 w' => ∃ (x4_2 : Bool) (x5_2 : Int), v4 = .bool x4_2 ∧ v5 = .int .i64 x5_2 ∧ qaa (qav.l0 kq (l0_0.length : Int) x4_2 x5_2 l0_0 l0_1 l0_2 = some r) ∧ qaa (kq ≤ kj1) ∧ qaa (w'.heap[qcS]? = some (.cells #[(.slice A0_0 l0_0.length c0_0), (.slice A0_1 l0_1.length c0_1), (.slice A0_2 l0_2.length c0_2)] 47 (0, 0))) ∧ qaa (Below w.heap.size w w'))
   case atStart => exact ⟨(x4_1), (0), (by first | rfl | (simp; done) | (simp [*]; done)), (by first | rfl | (simp; done) | (simp [*]; done)), H', ⟨Nat.le_refl _⟩, ⟨by (with_reducible repeat (first | refine qac ?_ _ | refine qae ?_ | refine qab ?_ _)); exact qbk.out⟩, ⟨by repeat (first | (with_reducible first | exact HB.out | apply qaf | apply qad | apply qah | refine qag ?_ qdU.out) | exact HB.out)⟩⟩
   case round =>
    clear H'; (try clear p2); (try clear c3); (try clear c6); (try clear c7); (try clear c7b0); (try clear c7b1); (try clear c7b2); (try clear qen); (try clear qeo); (try clear qeX); (try clear qew); (try clear qex); (try clear qeL); (try clear qeA); (try clear qeB); (try clear qeN); (try clear qep); (try clear qeq); (try clear qeY); (try clear qey); (try clear qez); (try clear qeM); (try clear qeC); (try clear qeD); (try clear qeO); (try clear p2); obtain ⟨x4_2, x5_2, rfl, rfl, HA, HK2, qbk, HB⟩ := hrel
    cases gk with
    | zero => exact absurd HA.out (by simp [qav.l0])
    | succ k2 =>
     have H := HA.out; clear HA; simp only [qav.l0] at H; have HC11 := qaa.mk H; clear H
     go_upto_region 4 with (fail)
     go_cut [35] (fun v35 wc => ∃ (kq : Nat) (qlp : Bool), v35 = .bool qlp ∧ qaa (qav.j2 kq (l0_0.length : Int) x4_2 x5_2 qlp l0_0 l0_1 l0_2 = some r) ∧ qaa (kq ≤ k2) ∧ qaa (wc.heap[qcS]? = some (.cells #[(.slice A0_0 l0_0.length c0_0), (.slice A0_1 l0_1.length c0_1), (.slice A0_2 l0_2.length c0_2)] 47 (0, 0))) ∧ qaa (Below w.heap.size w wc))
     case first =>
      have H := HC11.out; clear HC11
      by_cases c12 : x4_2 = true
      ·
       subst c12
       have H1 : (qav.j2 k2 (l0_0.length : Int) true x5_2 (decide (x5_2 < (l0_0.length : Int))) l0_0 l0_1 l0_2) = some r := by rw [if_pos rfl] at H; exact H
       clear H; have H := H1; clear H1; have H' := qaa.mk H; clear H
       go_wp2
       go_meet
       case rel => exact ⟨_, (decide (x5_2 < (l0_0.length : Int))), (by first | rfl | (simp; done) | (simp [*]; done)), H', ⟨by have := HJ1.out; have := HK2.out; first | omega | exact Nat.le_refl _⟩, ⟨by (with_reducible repeat (first | refine qac ?_ _ | refine qae ?_ | refine qab ?_ _)); exact qbk.out⟩, ⟨by repeat (first | (with_reducible first | exact HB.out | apply qaf | apply qad | apply qah | refine qag ?_ qdU.out) | exact HB.out)⟩⟩
      replace c12 := Bool.eq_false_iff.mpr c12; subst c12
      have H1 : (qav.j2 k2 (l0_0.length : Int) false x5_2 false l0_0 l0_1 l0_2) = some r := by rw [if_neg (show ¬ (false = true) by decide)] at H; exact H
      clear H; have H := H1; clear H1; have H' := qaa.mk H; clear H
      go_wp2
      go_meet
      case rel => exact ⟨_, (false), (by first | rfl | (simp; done) | (simp [*]; done)), H', ⟨by have := HJ1.out; have := HK2.out; first | omega | exact Nat.le_refl _⟩, ⟨by (with_reducible repeat (first | refine qac ?_ _ | refine qae ?_ | refine qab ?_ _)); exact qbk.out⟩, ⟨by repeat (first | (with_reducible first | exact HB.out | apply qaf | apply qad | apply qah | refine qag ?_ qdU.out) | exact HB.out)⟩⟩
     case rest =>
      clear HC11; (try clear c1); (try clear p2); (try clear c3); (try clear c6); (try clear c7); (try clear c7b0); (try clear c7b1); (try clear c7b2); (try clear c12); (try clear qen); (try clear qeo); (try clear qeX); (try clear qew); (try clear qex); (try clear qeL); (try clear qeA); (try clear qeB); (try clear qeN); (try clear qep); (try clear qeq); (try clear qeY); (try clear qey); (try clear qez); (try clear qeM); (try clear qeC); (try clear qeD); (try clear qeO); (try clear p2); obtain ⟨kq, qlp, rfl, HA, HJ10, qbk, HB⟩ := hcut
      cases kq with
      | zero => exact absurd HA.out (by simp [qav.j2])
      | succ kj10 =>
       have H := HA.out; clear HA; simp only [qav.j2] at H
       by_cases c13 : qlp = true
       ·
        subst c13
        have H1 : (if 0 ≤ x5_2 then (if x5_2 < (l0_0.length : Int) then ((qat.f kj10 ((qak l0_0 x5_2).f0) ((qak l0_0 x5_2).f1) ((qak l0_0 x5_2).f2) ((qak l0_0 x5_2).f3) ((qak l0_0 x5_2).f4)).bind fun t191 => (if t191 = true then (if x5_2 < (l0_1.length : Int) then ((qas.f (rd l0_1 x5_2) 0 100).bind fun t193 => (qav.l0 kj10 (l0_0.length : Int) t193 (wrap64 (x5_2 + 1)) l0_0 l0_1 l0_2)) else (none)) else (qav.l0 kj10 (l0_0.length : Int) false (wrap64 (x5_2 + 1)) l0_0 l0_1 l0_2))) else (none)) else (none)) = some r := by rw [if_pos rfl] at H; exact H
        clear H; have H := H1; clear H1
        by_cases c14 : 0 ≤ x5_2
        ·
         rw [if_pos c14] at H; have c14b0 : decide (0 ≤ x5_2) = true := decide_eq_true c14; clear c14
         by_cases c15 : x5_2 < (l0_0.length : Int)
         ·
          rw [if_pos c15] at H; have c15b0 : decide (x5_2 < (l0_0.length : Int)) = true := decide_eq_true c15; clear c15; replace H := Option.bind_eq_some_iff.mp H; obtain ⟨t191, A160, H⟩ := H; replace H : (if t191 = true then (if x5_2 < (l0_1.length : Int) then ((qas.f (rd l0_1 x5_2) 0 100).bind fun t193 => (qav.l0 kj10 (l0_0.length : Int) t193 (wrap64 (x5_2 + 1)) l0_0 l0_1 l0_2)) else (none)) else (qav.l0 kj10 (l0_0.length : Int) false (wrap64 (x5_2 + 1)) l0_0 l0_1 l0_2)) = some r := H; have A16 := qaa.mk A160; clear A160
          by_cases c17 : t191 = true
          ·
           subst c17
           have H1 : (if x5_2 < (l0_1.length : Int) then ((qas.f (rd l0_1 x5_2) 0 100).bind fun t193 => (qav.l0 kj10 (l0_0.length : Int) t193 (wrap64 (x5_2 + 1)) l0_0 l0_1 l0_2)) else (none)) = some r := by rw [if_pos rfl] at H; exact H
           clear H; have H := H1; clear H1
           by_cases c18 : x5_2 < (l0_1.length : Int)
           ·
            rw [if_pos c18] at H; have c18b0 : decide (x5_2 < (l0_1.length : Int)) = true := decide_eq_true c18; clear c18; replace H := Option.bind_eq_some_iff.mp H; obtain ⟨t193, A190, H⟩ := H; replace H : (qav.l0 kj10 (l0_0.length : Int) t193 (wrap64 (x5_2 + 1)) l0_0 l0_1 l0_2) = some r := H; have A19 := qaa.mk A190; clear A190; have H' := qaa.mk H; clear H; have qgk : wc.cell? ⟨qcS, 0, none⟩ = some (.slice A0_0 l0_0.length c0_0) := (qai qbk.out 0).trans rfl; have qgl : wc.cell? ⟨qcS, 1, none⟩ = some (.slice A0_1 l0_1.length c0_1) := (qai qbk.out 1).trans rfl; have qjd : wc.cell? ⟨qcS, 2, none⟩ = some (.slice A0_2 l0_2.length c0_2) := (qai qbk.out 2).trans rfl; have qgm := qaj qbk.out 0; have qgn := qaj qbk.out 1; have qje := qaj qbk.out 2; have p190 : 0 ≤ (x5_2 : Int) := of_decide_eq_true (by first | (with_reducible assumption) | assumption); have q190 : x5_2 < (l0_0.length : Int) := of_decide_eq_true (by first | (with_reducible assumption) | assumption); obtain ⟨qmZ, qnF, qnG, qnH, qnI, qnJ, qnK, e190, qeZ, qe0, qe1, qe2, qe3, qjf, qjg, qjh, qji, qjj, qjk⟩ := qnw qda.out x5_2 p190 q190; cases e190; replace qeZ := (HB.out.cell (World.block_lt_of_cell? w _ qeZ)).trans qeZ; replace qe0 := (HB.out.cell (World.block_lt_of_cell? w _ qe0)).trans qe0; replace qe1 := (HB.out.cell (World.block_lt_of_cell? w _ qe1)).trans qe1; replace qe2 := (HB.out.cell (World.block_lt_of_cell? w _ qe2)).trans qe2; replace qe3 := (HB.out.cell (World.block_lt_of_cell? w _ qe3)).trans qe3; have qmt := qaa.mk qjg; have qmu := qaa.mk qjf; clear qjg qjf; have qmv := qaa.mk qji; have qmw := qaa.mk qjh; clear qji qjh; have qmx := qaa.mk qjk; have qmy := qaa.mk qjj; clear qjk qjj; replace p190 := eq_true p190; replace q190 := eq_true q190
            go_wp2_with (first | ((with_reducible refine qaK (f := 76) rfl ?_); refine qbm (some 44) rfl rfl Try.func76 (by kernel_rfl) rfl #[.agg #[.slice qnF ((qak l0_0 x5_2).f0).length qnG, .slice qnH ((qak l0_0 x5_2).f1).length qnI, .slice qnJ ((qak l0_0 x5_2).f2).length qnK, .int .i64 ((qak l0_0 x5_2).f3), .int .i64 ((qak l0_0 x5_2).f4)]] rfl (by (try simp only [List.map_toArray, List.map_cons, List.map_nil]); first | done | rfl | (simp only [List.length_drop, List.length_take]; rfl)) ?_; (with_reducible refine (qat.calls kj10 _ _ ((qak l0_0 x5_2).f0) _ _ ((qak l0_0 x5_2).f1) _ _ ((qak l0_0 x5_2).f2) ((qak l0_0 x5_2).f3) ((qak l0_0 x5_2).f4) true _ ?side1 ?side2 ?side3 ?side4 ?side5 ?side6 A16.out).mono ?_); (case side1 => repeat (first | exact (Kd.C_below qmt.out HB.out) | (with_reducible refine Kd.C_alloc ?_ _) | (with_reducible refine Kd.C_drewN ?_ _) | (with_reducible refine Kd.C_drew ?_))); (case side2 => exact qmu.out); (case side3 => repeat (first | exact (Kd.C_below qmv.out HB.out) | (with_reducible refine Kd.C_alloc ?_ _) | (with_reducible refine Kd.C_drewN ?_ _) | (with_reducible refine Kd.C_drew ?_))); (case side4 => exact qmw.out); (case side5 => repeat (first | exact (Kd.C_below qmx.out HB.out) | (with_reducible refine Kd.C_alloc ?_ _) | (with_reducible refine Kd.C_drewN ?_ _) | (with_reducible refine Kd.C_drew ?_))); (case side6 => exact qmy.out); rintro e w21 ⟨rfl, hb⟩; refine ⟨_, rfl, ?_⟩; have n0_ := qaa.mk (qan (g := qcS) (o := .cells #[.slice (some qmZ) l0_0.length c0_0, .slice A0_1 l0_1.length c0_1, .slice A0_2 l0_2.length c0_2] 47 (0, 0)) (by (with_reducible repeat (first | refine qac ?_ _ | refine qae ?_ | refine qab ?_ _)); exact qbk.out) hb); have n1_ := qaa.mk (qar (by repeat (first | (with_reducible first | exact HB.out | apply qaf | apply qad | apply qah | refine qag ?_ qdU.out) | exact HB.out)) hb); clear qbk; clear HB; have qbk := n0_; have HB := n1_; clear n0_ n1_; (try clear hb); (try clear hb2); (try clear hk); (try clear hi); have qh6 : w21.cell? ⟨qcS, 0, none⟩ = some (.slice (some qmZ) l0_0.length c0_0) := (qai qbk.out 0).trans rfl; have qh7 : w21.cell? ⟨qcS, 1, none⟩ = some (.slice A0_1 l0_1.length c0_1) := (qai qbk.out 1).trans rfl; have qh8 : w21.cell? ⟨qcS, 2, none⟩ = some (.slice A0_2 l0_2.length c0_2) := (qai qbk.out 2).trans rfl; have qh9 := qaj qbk.out 0; have qia := qaj qbk.out 1; have qib := qaj qbk.out 2; have p192 : 0 ≤ (x5_2 : Int) := of_decide_eq_true (by first | (with_reducible assumption) | assumption); have q192 : x5_2 < (l0_1.length : Int) := of_decide_eq_true (by first | (with_reducible assumption) | assumption); obtain ⟨qDK, e192, qg7⟩ := Kd.at_int qde.out x5_2 p192 q192; cases e192; replace qg7 := (HB.out.cell (World.block_lt_of_cell? w _ qg7)).trans qg7; replace p192 := eq_true p192; replace q192 := eq_true q192) | (go_at_call 65; (with_reducible refine (qas.calls (rd l0_1 x5_2) 0 100 t193 _ A19.out).mono ?_); rintro e w' ⟨rfl, ⟨nd, rfl⟩⟩))
            go_roundg kj10
            case measure => have := HJ1.out; have := HK2.out; have := HJ10.out; omega
            case rel => exact ⟨(t193), (wrap64 (x5_2 + 1)), (by first | rfl | (simp; done) | (simp [*]; done)), (by first | rfl | (simp; done) | (simp [*]; done)), H', ⟨by have := HJ1.out; have := HK2.out; have := HJ10.out; omega⟩, ⟨by (with_reducible repeat (first | refine qac ?_ _ | refine qae ?_ | refine qab ?_ _)); exact qbk.out⟩, ⟨by repeat (first | (with_reducible first | exact HB.out | apply qaf | apply qad | apply qah | refine qag ?_ qdU.out) | exact HB.out)⟩⟩
           rw [if_neg c18] at H
           exact absurd H (by simp)
          replace c17 := Bool.eq_false_iff.mpr c17; subst c17
          have H1 : (qav.l0 kj10 (l0_0.length : Int) false (wrap64 (x5_2 + 1)) l0_0 l0_1 l0_2) = some r := by rw [if_neg (show ¬ (false = true) by decide)] at H; exact H
          clear H; have H := H1; clear H1; have H' := qaa.mk H; clear H; have qic : wc.cell? ⟨qcS, 0, none⟩ = some (.slice A0_0 l0_0.length c0_0) := (qai qbk.out 0).trans rfl; have qid : wc.cell? ⟨qcS, 1, none⟩ = some (.slice A0_1 l0_1.length c0_1) := (qai qbk.out 1).trans rfl; have qjl : wc.cell? ⟨qcS, 2, none⟩ = some (.slice A0_2 l0_2.length c0_2) := (qai qbk.out 2).trans rfl; have qie := qaj qbk.out 0; have qif := qaj qbk.out 1; have qjm := qaj qbk.out 2; have p190 : 0 ≤ (x5_2 : Int) := of_decide_eq_true (by first | (with_reducible assumption) | assumption); have q190 : x5_2 < (l0_0.length : Int) := of_decide_eq_true (by first | (with_reducible assumption) | assumption); obtain ⟨qmZ, qnF, qnG, qnH, qnI, qnJ, qnK, e190, qeZ, qe0, qe1, qe2, qe3, qjf, qjg, qjh, qji, qjj, qjk⟩ := qnw qda.out x5_2 p190 q190; cases e190; replace qeZ := (HB.out.cell (World.block_lt_of_cell? w _ qeZ)).trans qeZ; replace qe0 := (HB.out.cell (World.block_lt_of_cell? w _ qe0)).trans qe0; replace qe1 := (HB.out.cell (World.block_lt_of_cell? w _ qe1)).trans qe1; replace qe2 := (HB.out.cell (World.block_lt_of_cell? w _ qe2)).trans qe2; replace qe3 := (HB.out.cell (World.block_lt_of_cell? w _ qe3)).trans qe3; have qmt := qaa.mk qjg; have qmu := qaa.mk qjf; clear qjg qjf; have qmv := qaa.mk qji; have qmw := qaa.mk qjh; clear qji qjh; have qmx := qaa.mk qjk; have qmy := qaa.mk qjj; clear qjk qjj; replace p190 := eq_true p190; replace q190 := eq_true q190
          go_wp2_with (first | ((with_reducible refine qaK (f := 76) rfl ?_); refine qbm (some 44) rfl rfl Try.func76 (by kernel_rfl) rfl #[.agg #[.slice qnF ((qak l0_0 x5_2).f0).length qnG, .slice qnH ((qak l0_0 x5_2).f1).length qnI, .slice qnJ ((qak l0_0 x5_2).f2).length qnK, .int .i64 ((qak l0_0 x5_2).f3), .int .i64 ((qak l0_0 x5_2).f4)]] rfl (by (try simp only [List.map_toArray, List.map_cons, List.map_nil]); first | done | rfl | (simp only [List.length_drop, List.length_take]; rfl)) ?_; (with_reducible refine (qat.calls kj10 _ _ ((qak l0_0 x5_2).f0) _ _ ((qak l0_0 x5_2).f1) _ _ ((qak l0_0 x5_2).f2) ((qak l0_0 x5_2).f3) ((qak l0_0 x5_2).f4) false _ ?side1 ?side2 ?side3 ?side4 ?side5 ?side6 A16.out).mono ?_); (case side1 => repeat (first | exact (Kd.C_below qmt.out HB.out) | (with_reducible refine Kd.C_alloc ?_ _) | (with_reducible refine Kd.C_drewN ?_ _) | (with_reducible refine Kd.C_drew ?_))); (case side2 => exact qmu.out); (case side3 => repeat (first | exact (Kd.C_below qmv.out HB.out) | (with_reducible refine Kd.C_alloc ?_ _) | (with_reducible refine Kd.C_drewN ?_ _) | (with_reducible refine Kd.C_drew ?_))); (case side4 => exact qmw.out); (case side5 => repeat (first | exact (Kd.C_below qmx.out HB.out) | (with_reducible refine Kd.C_alloc ?_ _) | (with_reducible refine Kd.C_drewN ?_ _) | (with_reducible refine Kd.C_drew ?_))); (case side6 => exact qmy.out); rintro e w24 ⟨rfl, hb⟩; refine ⟨_, rfl, ?_⟩; have n0_ := qaa.mk (qan (g := qcS) (o := .cells #[.slice (some qmZ) l0_0.length c0_0, .slice A0_1 l0_1.length c0_1, .slice A0_2 l0_2.length c0_2] 47 (0, 0)) (by (with_reducible repeat (first | refine qac ?_ _ | refine qae ?_ | refine qab ?_ _)); exact qbk.out) hb); have n1_ := qaa.mk (qar (by repeat (first | (with_reducible first | exact HB.out | apply qaf | apply qad | apply qah | refine qag ?_ qdU.out) | exact HB.out)) hb); clear qbk; clear HB; have qbk := n0_; have HB := n1_; clear n0_ n1_; (try clear hb); (try clear hb2); (try clear hk); (try clear hi)))
          go_roundg kj10
          case measure => have := HJ1.out; have := HK2.out; have := HJ10.out; omega
          case rel => exact ⟨(false), (wrap64 (x5_2 + 1)), (by first | rfl | (simp; done) | (simp [*]; done)), (by first | rfl | (simp; done) | (simp [*]; done)), H', ⟨by have := HJ1.out; have := HK2.out; have := HJ10.out; omega⟩, ⟨by (with_reducible repeat (first | refine qac ?_ _ | refine qae ?_ | refine qab ?_ _)); exact qbk.out⟩, ⟨by repeat (first | (with_reducible first | exact HB.out | apply qaf | apply qad | apply qah | refine qag ?_ qdU.out) | exact HB.out)⟩⟩
         rw [if_neg c15] at H
         exact absurd H (by simp)
        rw [if_neg c14] at H
        exact absurd H (by simp)
       replace c13 := Bool.eq_false_iff.mpr c13; subst c13
       have H1 : (qav.l1 kj10 (l0_0.length : Int) x4_2 l0_2 (l0_2.length : Int) 0 l0_0 l0_1 l0_2) = some r := by rw [if_neg (show ¬ (false = true) by decide)] at H; exact H
       clear H; have H := H1; clear H1; have H' := qaa.mk H; clear H; have qjn : wc.cell? ⟨qcS, 0, none⟩ = some (.slice A0_0 l0_0.length c0_0) := (qai qbk.out 0).trans rfl; have qjo : wc.cell? ⟨qcS, 1, none⟩ = some (.slice A0_1 l0_1.length c0_1) := (qai qbk.out 1).trans rfl; have qjp : wc.cell? ⟨qcS, 2, none⟩ = some (.slice A0_2 l0_2.length c0_2) := (qai qbk.out 2).trans rfl; have qjq := qaj qbk.out 0; have qjr := qaj qbk.out 1; have qjs := qaj qbk.out 2
       go_wp2
       go_loopg [4, 56] kj10 (fun kq v4 v56 w' => ∃ (x4_4 : Bool) (qa8 : Int), v4 = .bool x4_4 ∧ v56 = .int .i64 qa8 ∧ qaa (qav.l1 kq (l0_0.length : Int) x4_4 l0_2 (l0_2.length : Int) qa8 l0_0 l0_1 l0_2 = some r) ∧ qaa (kq ≤ kj10) ∧ qaa (w'.heap[qcS]? = some (.cells #[(.slice A0_0 l0_0.length c0_0), (.slice A0_1 l0_1.length c0_1), (.slice A0_2 l0_2.length c0_2)] 47 (0, 0))) ∧ qaa (Below w.heap.size w w'))
       case atStart => exact ⟨(x4_2), (0), (by first | rfl | (simp; done) | (simp [*]; done)), (by first | rfl | (simp; done) | (simp [*]; done)), H', ⟨Nat.le_refl _⟩, ⟨by (with_reducible repeat (first | refine qac ?_ _ | refine qae ?_ | refine qab ?_ _)); exact qbk.out⟩, ⟨by repeat (first | (with_reducible first | exact HB.out | apply qaf | apply qad | apply qah | refine qag ?_ qdU.out) | exact HB.out)⟩⟩
       case round =>
        clear H'; (try clear c1); (try clear p1); (try clear q1); (try clear hx1); (try clear p2); (try clear c3); (try clear c6); (try clear p6); (try clear c7); (try clear c7b0); (try clear c7b1); (try clear c7b2); (try clear c12); (try clear c13); (try clear c14); (try clear c14b0); (try clear c15); (try clear c15b0); (try clear c17); (try clear c18); (try clear c18b0); (try clear c19); (try clear p19); (try clear q19); (try clear hx19); (try clear qen); (try clear qeo); (try clear qeX); (try clear qgk); (try clear qgl); (try clear qjd); (try clear qh6); (try clear qh7); (try clear qh8); (try clear qic); (try clear qid); (try clear qjl); (try clear qjn); (try clear qjo); (try clear qjp); (try clear qew); (try clear qex); (try clear qeL); (try clear qeA); (try clear qeB); (try clear qeN); (try clear qep); (try clear qeq); (try clear qeY); (try clear qgm); (try clear qgn); (try clear qje); (try clear qh9); (try clear qia); (try clear qib); (try clear qie); (try clear qif); (try clear qjm); (try clear qjq); (try clear qjr); (try clear qjs); (try clear qey); (try clear qez); (try clear qeM); (try clear qeC); (try clear qeD); (try clear qeO); (try clear qeZ); (try clear qe0); (try clear qe1); (try clear qe2); (try clear qe3); (try clear qg7); (try clear p190); (try clear p192); (try clear p2); (try clear q190); (try clear q192); obtain ⟨x4_4, qa8, rfl, rfl, HA, HK4, qbk, HB⟩ := hrel
        cases gk with
        | zero => exact absurd HA.out (by simp [qav.l1])
        | succ k4 =>
         have H := HA.out; clear HA; simp only [qav.l1] at H
         by_cases c26 : qa8 < (l0_2.length : Int)
         ·
          rw [if_pos c26] at H; have c26b0 : decide (qa8 < (l0_2.length : Int)) = true := decide_eq_true c26; clear c26
          by_cases c27 : 0 ≤ qa8
          ·
           rw [if_pos c27] at H; have c27b0 : decide (0 ≤ qa8) = true := decide_eq_true c27; clear c27
           by_cases c28 : qa8 < (l0_2.length : Int)
           ·
            rw [if_pos c28] at H; have c28b0 : decide (qa8 < (l0_2.length : Int)) = true := decide_eq_true c28; clear c28; have HC29 := qaa.mk H; clear H; have p194 : 0 ≤ (qa8 : Int) := of_decide_eq_true (by first | (with_reducible assumption) | assumption); have q194 : qa8 < (l0_2.length : Int) := of_decide_eq_true (by first | (with_reducible assumption) | assumption); obtain ⟨qkm, qCa, qCb, e194, qhp, qoo, qop⟩ := qoW qdf.out qa8 p194 q194; cases e194; replace qhp := (HB.out.cell (World.block_lt_of_cell? w _ qhp)).trans qhp; have qsB := qaa.mk qop; have qyJ := qaa.mk qoo; clear qop qoo; replace p194 := eq_true p194; replace q194 := eq_true q194
            go_upto_region 10 with (fail)
            go_cut [4] (fun v4 wc => ∃ (kq : Nat) (qm0 : Bool), v4 = .bool qm0 ∧ qaa (qav.j4 kq (l0_0.length : Int) qm0 (qaB l0_2 qa8) l0_2 (l0_2.length : Int) qa8 l0_0 l0_1 l0_2 = some r) ∧ qaa (kq ≤ k4) ∧ qaa (wc.heap[qcS]? = some (.cells #[(.slice A0_0 l0_0.length c0_0), (.slice A0_1 l0_1.length c0_1), (.slice (some qkm) l0_2.length c0_2)] 47 (0, 0))) ∧ qaa (Below w.heap.size w wc))
            case first =>
             have H := HC29.out; clear HC29
             by_cases c30 : x4_4 = true
             ·
              subst c30
              have H1 : (qav.j4 k4 (l0_0.length : Int) (((qaB l0_2 qa8).length : Int) == (l0_0.length : Int)) (qaB l0_2 qa8) l0_2 (l0_2.length : Int) qa8 l0_0 l0_1 l0_2) = some r := by rw [if_pos rfl] at H; exact H
              clear H; have H := H1; clear H1; have H' := qaa.mk H; clear H
              go_wp2
              go_meet
              case rel => exact ⟨_, ((((qaB l0_2 qa8).length : Int) == (l0_0.length : Int))), (by first | rfl | (simp; done) | (simp [*]; done)), H', ⟨by have := HJ1.out; have := HK2.out; have := HJ10.out; have := HK4.out; first | omega | exact Nat.le_refl _⟩, ⟨by (with_reducible repeat (first | refine qac ?_ _ | refine qae ?_ | refine qab ?_ _)); exact qbk.out⟩, ⟨by repeat (first | (with_reducible first | exact HB.out | apply qaf | apply qad | apply qah | refine qag ?_ qdU.out) | exact HB.out)⟩⟩
             replace c30 := Bool.eq_false_iff.mpr c30; subst c30
             have H1 : (qav.j4 k4 (l0_0.length : Int) false (qaB l0_2 qa8) l0_2 (l0_2.length : Int) qa8 l0_0 l0_1 l0_2) = some r := by rw [if_neg (show ¬ (false = true) by decide)] at H; exact H
             clear H; have H := H1; clear H1; have H' := qaa.mk H; clear H
             go_wp2
             go_meet
             case rel => exact ⟨_, (false), (by first | rfl | (simp; done) | (simp [*]; done)), H', ⟨by have := HJ1.out; have := HK2.out; have := HJ10.out; have := HK4.out; first | omega | exact Nat.le_refl _⟩, ⟨by (with_reducible repeat (first | refine qac ?_ _ | refine qae ?_ | refine qab ?_ _)); exact qbk.out⟩, ⟨by repeat (first | (with_reducible first | exact HB.out | apply qaf | apply qad | apply qah | refine qag ?_ qdU.out) | exact HB.out)⟩⟩
            case rest =>
             clear HC29; (try clear c1); (try clear p1); (try clear q1); (try clear hx1); (try clear c2); (try clear p2); (try clear c3); (try clear c6); (try clear p6); (try clear c7); (try clear c7b0); (try clear c7b1); (try clear c7b2); (try clear c12); (try clear c13); (try clear c14); (try clear c14b0); (try clear c15); (try clear c15b0); (try clear c17); (try clear c18); (try clear c18b0); (try clear c19); (try clear p19); (try clear q19); (try clear hx19); (try clear c26); (try clear c26b0); (try clear c27); (try clear c27b0); (try clear c28); (try clear c28b0); (try clear c30); (try clear qen); (try clear qeo); (try clear qeX); (try clear qgk); (try clear qgl); (try clear qjd); (try clear qh6); (try clear qh7); (try clear qh8); (try clear qic); (try clear qid); (try clear qjl); (try clear qjn); (try clear qjo); (try clear qjp); (try clear qew); (try clear qex); (try clear qeL); (try clear qeA); (try clear qeB); (try clear qeN); (try clear qep); (try clear qeq); (try clear qeY); (try clear qgm); (try clear qgn); (try clear qje); (try clear qh9); (try clear qia); (try clear qib); (try clear qie); (try clear qif); (try clear qjm); (try clear qjq); (try clear qjr); (try clear qjs); (try clear qey); (try clear qez); (try clear qeM); (try clear qeC); (try clear qeD); (try clear qeO); (try clear qeZ); (try clear qe0); (try clear qe1); (try clear qe2); (try clear qe3); (try clear qg7); (try clear qhp); (try clear p1); (try clear p19); (try clear p190); (try clear p192); (try clear p194); (try clear p2); (try clear p6); (try clear q1); (try clear q19); (try clear q190); (try clear q192); (try clear q194); obtain ⟨kq, qm0, rfl, HA, HJ28, qbk, HB⟩ := hcut
             cases kq with
             | zero => exact absurd HA.out (by simp [qav.j4])
             | succ kj28 =>
              have H := HA.out; clear HA; simp only [qav.j4] at H; have H' := qaa.mk H; clear H
              go_wp2
              go_loopg [4, 69] kj28 (fun kq v4 v69 w' => ∃ (x4_6 : Bool) (qbU : Int), v4 = .bool x4_6 ∧ v69 = .int .i64 qbU ∧ qaa (qav.l2 kq (l0_0.length : Int) x4_6 l0_2 (l0_2.length : Int) qa8 (qaB l0_2 qa8) ((qaB l0_2 qa8).length : Int) qbU l0_0 l0_1 l0_2 = some r) ∧ qaa (kq ≤ kj28) ∧ qaa (w'.heap[qcS]? = some (.cells #[(.slice A0_0 l0_0.length c0_0), (.slice A0_1 l0_1.length c0_1), (.slice (some qkm) l0_2.length c0_2)] 47 (0, 0))) ∧ qaa (Below w.heap.size w w'))
              case atStart => exact ⟨(qm0), (0), (by first | rfl | (simp; done) | (simp [*]; done)), (by first | rfl | (simp; done) | (simp [*]; done)), H', ⟨Nat.le_refl _⟩, ⟨by (with_reducible repeat (first | refine qac ?_ _ | refine qae ?_ | refine qab ?_ _)); exact qbk.out⟩, ⟨by repeat (first | (with_reducible first | exact HB.out | apply qaf | apply qad | apply qah | refine qag ?_ qdU.out) | exact HB.out)⟩⟩
              case round =>
               clear H'; (try clear c1); (try clear p1); (try clear q1); (try clear hx1); (try clear c2); (try clear p2); (try clear c3); (try clear c6); (try clear p6); (try clear c7); (try clear c7b0); (try clear c7b1); (try clear c7b2); (try clear c12); (try clear c13); (try clear c14); (try clear c14b0); (try clear c15); (try clear c15b0); (try clear c17); (try clear c18); (try clear c18b0); (try clear c19); (try clear p19); (try clear q19); (try clear hx19); (try clear c26); (try clear c26b0); (try clear c27); (try clear c27b0); (try clear c28); (try clear c28b0); (try clear c30); (try clear qen); (try clear qeo); (try clear qeX); (try clear qgk); (try clear qgl); (try clear qjd); (try clear qh6); (try clear qh7); (try clear qh8); (try clear qic); (try clear qid); (try clear qjl); (try clear qjn); (try clear qjo); (try clear qjp); (try clear qew); (try clear qex); (try clear qeL); (try clear qeA); (try clear qeB); (try clear qeN); (try clear qep); (try clear qeq); (try clear qeY); (try clear qgm); (try clear qgn); (try clear qje); (try clear qh9); (try clear qia); (try clear qib); (try clear qie); (try clear qif); (try clear qjm); (try clear qjq); (try clear qjr); (try clear qjs); (try clear qey); (try clear qez); (try clear qeM); (try clear qeC); (try clear qeD); (try clear qeO); (try clear qeZ); (try clear qe0); (try clear qe1); (try clear qe2); (try clear qe3); (try clear qg7); (try clear qhp); (try clear p1); (try clear p19); (try clear p190); (try clear p192); (try clear p194); (try clear p2); (try clear p6); (try clear q1); (try clear q19); (try clear q190); (try clear q192); (try clear q194); obtain ⟨x4_6, qbU, rfl, rfl, HA, HK6, qbk, HB⟩ := hrel
               cases gk with
               | zero => exact absurd HA.out (by simp [qav.l2])
               | succ k6 =>
                have H := HA.out; clear HA; simp only [qav.l2] at H
                by_cases c31 : qbU < ((qaB l0_2 qa8).length : Int)
                ·
                 rw [if_pos c31] at H; have c31b0 : decide (qbU < ((qaB l0_2 qa8).length : Int)) = true := decide_eq_true c31; clear c31
                 by_cases c32 : 0 ≤ qbU
                 ·
                  rw [if_pos c32] at H; have c32b0 : decide (0 ≤ qbU) = true := decide_eq_true c32; clear c32
                  by_cases c33 : qbU < ((qaB l0_2 qa8).length : Int)
                  ·
                   rw [if_pos c33] at H; have c33b0 : decide (qbU < ((qaB l0_2 qa8).length : Int)) = true := decide_eq_true c33; clear c33; have HC34 := qaa.mk H; clear H; have p195 : 0 ≤ (qbU : Int) := of_decide_eq_true (by first | (with_reducible assumption) | assumption); have q195 : qbU < ((qaB l0_2 qa8).length : Int) := of_decide_eq_true (by first | (with_reducible assumption) | assumption); obtain ⟨qDL, qCc, qCd, e195, qjt, qoq, qor⟩ := qmV qsB.out qbU p195 q195; cases e195; replace qjt := (HB.out.cell (World.block_lt_of_cell? w _ qjt)).trans qjt; have qot := qaa.mk qor; have qyK := qaa.mk qoq; clear qor qoq; replace p195 := eq_true p195; replace q195 := eq_true q195
                   go_upto_region 14 with (fail)
                   go_cut [4] (fun v4 wc => ∃ (kq : Nat) (qm1 : Bool), v4 = .bool qm1 ∧ qaa (qav.j6 kq (l0_0.length : Int) qm1 (qaT (qaB l0_2 qa8) qbU) l0_2 (l0_2.length : Int) qa8 (qaB l0_2 qa8) ((qaB l0_2 qa8).length : Int) qbU l0_0 l0_1 l0_2 = some r) ∧ qaa (kq ≤ k6) ∧ qaa (wc.heap[qcS]? = some (.cells #[(.slice A0_0 l0_0.length c0_0), (.slice A0_1 l0_1.length c0_1), (.slice (some qkm) l0_2.length c0_2)] 47 (0, 0))) ∧ qaa (Below w.heap.size w wc))
                   case first =>
                    have H := HC34.out; clear HC34
                    by_cases c35 : x4_6 = true
                    ·
                     subst c35
                     have H1 : ((qas.f ((qaT (qaB l0_2 qa8) qbU).length : Int) 1 10).bind fun t196 => (if t196 = true then (if 0 < (l0_2.length : Int) then (if 0 < ((qaB l0_2 0).length : Int) then (qav.j6 k6 (l0_0.length : Int) (((qaT (qaB l0_2 qa8) qbU).length : Int) == ((qaT (qaB l0_2 0) 0).length : Int)) (qaT (qaB l0_2 qa8) qbU) l0_2 (l0_2.length : Int) qa8 (qaB l0_2 qa8) ((qaB l0_2 qa8).length : Int) qbU l0_0 l0_1 l0_2) else (none)) else (none)) else (qav.j6 k6 (l0_0.length : Int) false (qaT (qaB l0_2 qa8) qbU) l0_2 (l0_2.length : Int) qa8 (qaB l0_2 qa8) ((qaB l0_2 qa8).length : Int) qbU l0_0 l0_1 l0_2))) = some r := by rw [if_pos rfl] at H; exact H
                     clear H; have H := H1; clear H1; replace H := Option.bind_eq_some_iff.mp H; obtain ⟨t196, A360, H⟩ := H; replace H : (if t196 = true then (if 0 < (l0_2.length : Int) then (if 0 < ((qaB l0_2 0).length : Int) then (qav.j6 k6 (l0_0.length : Int) (((qaT (qaB l0_2 qa8) qbU).length : Int) == ((qaT (qaB l0_2 0) 0).length : Int)) (qaT (qaB l0_2 qa8) qbU) l0_2 (l0_2.length : Int) qa8 (qaB l0_2 qa8) ((qaB l0_2 qa8).length : Int) qbU l0_0 l0_1 l0_2) else (none)) else (none)) else (qav.j6 k6 (l0_0.length : Int) false (qaT (qaB l0_2 qa8) qbU) l0_2 (l0_2.length : Int) qa8 (qaB l0_2 qa8) ((qaB l0_2 qa8).length : Int) qbU l0_0 l0_1 l0_2)) = some r := H; have A36 := qaa.mk A360; clear A360
                     by_cases c37 : t196 = true
                     ·
                      subst c37
                      have H1 : (if 0 < (l0_2.length : Int) then (if 0 < ((qaB l0_2 0).length : Int) then (qav.j6 k6 (l0_0.length : Int) (((qaT (qaB l0_2 qa8) qbU).length : Int) == ((qaT (qaB l0_2 0) 0).length : Int)) (qaT (qaB l0_2 qa8) qbU) l0_2 (l0_2.length : Int) qa8 (qaB l0_2 qa8) ((qaB l0_2 qa8).length : Int) qbU l0_0 l0_1 l0_2) else (none)) else (none)) = some r := by rw [if_pos rfl] at H; exact H
                      clear H; have H := H1; clear H1
                      by_cases c38 : 0 < (l0_2.length : Int)
                      ·
                       rw [if_pos c38] at H; have c38b0 : decide (0 < (l0_2.length : Int)) = true := decide_eq_true c38; have c38b1 : decide (0 < l0_2.length) = true := decide_eq_true (by omega); clear c38
                       (first | rw [c38b0] | (simp only [qaM, qaR]; rw [c38b0]) | skip)
                       by_cases c39 : 0 < ((qaB l0_2 0).length : Int)
                       ·
                        rw [if_pos c39] at H; have c39b0 : decide (0 < ((qaB l0_2 0).length : Int)) = true := decide_eq_true c39; have c39b1 : decide (0 < (qaB l0_2 0).length) = true := decide_eq_true (by omega); clear c39; have H' := qaa.mk H; clear H
                        go_wp2_with (first | (go_at_call 65; (with_reducible refine (qas.calls ((qaT (qaB l0_2 qa8) qbU).length : Int) 1 10 true _ A36.out).mono ?_); rintro e w' ⟨rfl, ⟨nd, rfl⟩⟩; have qi7 : wr.cell? ⟨qcS, 0, none⟩ = some (.slice A0_0 l0_0.length c0_0) := (qai qbk.out 0).trans rfl; have qi8 : wr.cell? ⟨qcS, 1, none⟩ = some (.slice A0_1 l0_1.length c0_1) := (qai qbk.out 1).trans rfl; have qkk : wr.cell? ⟨qcS, 2, none⟩ = some (.slice (some qkm) l0_2.length c0_2) := (qai qbk.out 2).trans rfl; have qi9 := qaj qbk.out 0; have qja := qaj qbk.out 1; have qkl := qaj qbk.out 2; have p197 : 0 ≤ (0 : Int) := (by omega); have q197 : 0 < (l0_2.length : Int) := of_decide_eq_true (by first | (with_reducible assumption) | assumption); obtain ⟨quI, qCe, qCf, e197, qhq, qou, qov⟩ := qoW qdf.out 0 p197 q197; obtain rfl : qkm = quI := (by injection e197); have qDM : (0 < l0_2.length) = True := eq_true (by omega); (try rw [show ((0 : Int)).toNat = 0 from rfl] at qhq); (try rw [Addr.add_zero'] at qhq); replace qhq := (HB.out.cell (World.block_lt_of_cell? w _ qhq)).trans qhq; have qsC := qaa.mk qov; have qyL := qaa.mk qou; clear qov qou; replace p197 := eq_true p197; replace q197 := eq_true q197; have p198 : 0 ≤ (0 : Int) := (by omega); have q198 : 0 < ((qaB l0_2 0).length : Int) := of_decide_eq_true (by first | (with_reducible assumption) | assumption); obtain ⟨qDN, qCg, qCh, e198, qhr, qow, qox⟩ := qmV qsC.out 0 p198 q198; cases e198; have qDO : (0 < (qaB l0_2 0).length) = True := eq_true (by omega); (try rw [show ((0 : Int)).toNat = 0 from rfl] at qhr); (try rw [Addr.add_zero'] at qhr); replace qhr := (HB.out.cell (World.block_lt_of_cell? w _ qhr)).trans qhr; have qyM := qaa.mk qox; have qyN := qaa.mk qow; clear qox qow; replace p198 := eq_true p198; replace q198 := eq_true q198))
                        go_meet
                        case rel => exact ⟨_, ((((qaT (qaB l0_2 qa8) qbU).length : Int) == ((qaT (qaB l0_2 0) 0).length : Int))), (by first | rfl | (simp; done) | (simp [*]; done)), H', ⟨by have := HJ1.out; have := HK2.out; have := HJ10.out; have := HK4.out; have := HJ28.out; have := HK6.out; first | omega | exact Nat.le_refl _⟩, ⟨by (with_reducible repeat (first | refine qac ?_ _ | refine qae ?_ | refine qab ?_ _)); exact qbk.out⟩, ⟨by repeat (first | (with_reducible first | exact HB.out | apply qaf | apply qad | apply qah | refine qag ?_ qdU.out) | exact HB.out)⟩⟩
                       rw [if_neg c39] at H
                       exact absurd H (by simp)
                      rw [if_neg c38] at H
                      exact absurd H (by simp)
                     replace c37 := Bool.eq_false_iff.mpr c37; subst c37
                     have H1 : (qav.j6 k6 (l0_0.length : Int) false (qaT (qaB l0_2 qa8) qbU) l0_2 (l0_2.length : Int) qa8 (qaB l0_2 qa8) ((qaB l0_2 qa8).length : Int) qbU l0_0 l0_1 l0_2) = some r := by rw [if_neg (show ¬ (false = true) by decide)] at H; exact H
                     clear H; have H := H1; clear H1; have H' := qaa.mk H; clear H
                     go_wp2_with (first | (go_at_call 65; (with_reducible refine (qas.calls ((qaT (qaB l0_2 qa8) qbU).length : Int) 1 10 false _ A36.out).mono ?_); rintro e w' ⟨rfl, ⟨nd, rfl⟩⟩))
                     go_meet
                     case rel => exact ⟨_, (false), (by first | rfl | (simp; done) | (simp [*]; done)), H', ⟨by have := HJ1.out; have := HK2.out; have := HJ10.out; have := HK4.out; have := HJ28.out; have := HK6.out; first | omega | exact Nat.le_refl _⟩, ⟨by (with_reducible repeat (first | refine qac ?_ _ | refine qae ?_ | refine qab ?_ _)); exact qbk.out⟩, ⟨by repeat (first | (with_reducible first | exact HB.out | apply qaf | apply qad | apply qah | refine qag ?_ qdU.out) | exact HB.out)⟩⟩
                    replace c35 := Bool.eq_false_iff.mpr c35; subst c35
                    have H1 : (qav.j6 k6 (l0_0.length : Int) false (qaT (qaB l0_2 qa8) qbU) l0_2 (l0_2.length : Int) qa8 (qaB l0_2 qa8) ((qaB l0_2 qa8).length : Int) qbU l0_0 l0_1 l0_2) = some r := by rw [if_neg (show ¬ (false = true) by decide)] at H; exact H
                    clear H; have H := H1; clear H1; have H' := qaa.mk H; clear H
                    go_wp2
                    go_meet
                    case rel => exact ⟨_, (false), (by first | rfl | (simp; done) | (simp [*]; done)), H', ⟨by have := HJ1.out; have := HK2.out; have := HJ10.out; have := HK4.out; have := HJ28.out; have := HK6.out; first | omega | exact Nat.le_refl _⟩, ⟨by (with_reducible repeat (first | refine qac ?_ _ | refine qae ?_ | refine qab ?_ _)); exact qbk.out⟩, ⟨by repeat (first | (with_reducible first | exact HB.out | apply qaf | apply qad | apply qah | refine qag ?_ qdU.out) | exact HB.out)⟩⟩
                   case rest =>
                    clear HC34; (try clear c1); (try clear p1); (try clear q1); (try clear hx1); (try clear qi1); (try clear c2); (try clear p2); (try clear c3); (try clear c6); (try clear p6); (try clear c7); (try clear c7b0); (try clear c7b1); (try clear c7b2); (try clear c12); (try clear c13); (try clear c14); (try clear c14b0); (try clear c15); (try clear c15b0); (try clear c17); (try clear c18); (try clear c18b0); (try clear c19); (try clear p19); (try clear q19); (try clear hx19); (try clear qi19); (try clear c26); (try clear c26b0); (try clear c27); (try clear c27b0); (try clear c28); (try clear c28b0); (try clear c30); (try clear c31); (try clear c31b0); (try clear c32); (try clear c32b0); (try clear c33); (try clear c33b0); (try clear c35); (try clear c37); (try clear c38); (try clear c38b0); (try clear c38b1); (try clear c39); (try clear c39b0); (try clear c39b1); (try clear qen); (try clear qeo); (try clear qeX); (try clear qgk); (try clear qgl); (try clear qjd); (try clear qh6); (try clear qh7); (try clear qh8); (try clear qic); (try clear qid); (try clear qjl); (try clear qjn); (try clear qjo); (try clear qjp); (try clear qi7); (try clear qi8); (try clear qkk); (try clear qew); (try clear qex); (try clear qeL); (try clear qeA); (try clear qeB); (try clear qeN); (try clear qep); (try clear qeq); (try clear qeY); (try clear qgm); (try clear qgn); (try clear qje); (try clear qh9); (try clear qia); (try clear qib); (try clear qie); (try clear qif); (try clear qjm); (try clear qjq); (try clear qjr); (try clear qjs); (try clear qi9); (try clear qja); (try clear qkl); (try clear qey); (try clear qez); (try clear qeM); (try clear qeC); (try clear qeD); (try clear qeO); (try clear qeZ); (try clear qe0); (try clear qe1); (try clear qe2); (try clear qe3); (try clear qg7); (try clear qhp); (try clear qjt); (try clear qhq); (try clear qhr); (try clear p1); (try clear p19); (try clear p190); (try clear p192); (try clear p194); (try clear p195); (try clear p197); (try clear p198); (try clear p2); (try clear p6); (try clear q1); (try clear q19); (try clear q190); (try clear q192); (try clear q194); (try clear q195); (try clear q197); (try clear q198); obtain ⟨kq, qm1, rfl, HA, HJ33, qbk, HB⟩ := hcut
                    cases kq with
                    | zero => exact absurd HA.out (by simp [qav.j6])
                    | succ kj33 =>
                     have H := HA.out; clear HA; simp only [qav.j6] at H; have H' := qaa.mk H; clear H
                     go_wp2
                     go_loopg [4, 93] kj33 (fun kq v4 v93 w' => ∃ (x4_8 : Bool) (qd2 : Int), v4 = .bool x4_8 ∧ v93 = .int .i64 qd2 ∧ qaa (qav.l3 kq (l0_0.length : Int) x4_8 l0_2 (l0_2.length : Int) qa8 (qaB l0_2 qa8) ((qaB l0_2 qa8).length : Int) qbU (qaT (qaB l0_2 qa8) qbU) ((qaT (qaB l0_2 qa8) qbU).length : Int) qd2 l0_0 l0_1 l0_2 = some r) ∧ qaa (kq ≤ kj33) ∧ qaa (w'.heap[qcS]? = some (.cells #[(.slice A0_0 l0_0.length c0_0), (.slice A0_1 l0_1.length c0_1), (.slice (some qkm) l0_2.length c0_2)] 47 (0, 0))) ∧ qaa (Below w.heap.size w w'))
                     case atStart => exact ⟨(qm1), (0), (by first | rfl | (simp; done) | (simp [*]; done)), (by first | rfl | (simp; done) | (simp [*]; done)), H', ⟨Nat.le_refl _⟩, ⟨by (with_reducible repeat (first | refine qac ?_ _ | refine qae ?_ | refine qab ?_ _)); exact qbk.out⟩, ⟨by repeat (first | (with_reducible first | exact HB.out | apply qaf | apply qad | apply qah | refine qag ?_ qdU.out) | exact HB.out)⟩⟩
                     case round =>
                      clear H'; (try clear c1); (try clear p1); (try clear q1); (try clear hx1); (try clear qi1); (try clear c2); (try clear p2); (try clear c3); (try clear c6); (try clear p6); (try clear c7); (try clear c7b0); (try clear c7b1); (try clear c7b2); (try clear c12); (try clear c13); (try clear c14); (try clear c14b0); (try clear c15); (try clear c15b0); (try clear c17); (try clear c18); (try clear c18b0); (try clear c19); (try clear p19); (try clear q19); (try clear hx19); (try clear qi19); (try clear c26); (try clear c26b0); (try clear c27); (try clear c27b0); (try clear c28); (try clear c28b0); (try clear c30); (try clear c31); (try clear c31b0); (try clear c32); (try clear c32b0); (try clear c33); (try clear c33b0); (try clear c35); (try clear c37); (try clear c38); (try clear c38b0); (try clear c38b1); (try clear c39); (try clear c39b0); (try clear c39b1); (try clear qen); (try clear qeo); (try clear qeX); (try clear qgk); (try clear qgl); (try clear qjd); (try clear qh6); (try clear qh7); (try clear qh8); (try clear qic); (try clear qid); (try clear qjl); (try clear qjn); (try clear qjo); (try clear qjp); (try clear qi7); (try clear qi8); (try clear qkk); (try clear qew); (try clear qex); (try clear qeL); (try clear qeA); (try clear qeB); (try clear qeN); (try clear qep); (try clear qeq); (try clear qeY); (try clear qgm); (try clear qgn); (try clear qje); (try clear qh9); (try clear qia); (try clear qib); (try clear qie); (try clear qif); (try clear qjm); (try clear qjq); (try clear qjr); (try clear qjs); (try clear qi9); (try clear qja); (try clear qkl); (try clear qey); (try clear qez); (try clear qeM); (try clear qeC); (try clear qeD); (try clear qeO); (try clear qeZ); (try clear qe0); (try clear qe1); (try clear qe2); (try clear qe3); (try clear qg7); (try clear qhp); (try clear qjt); (try clear qhq); (try clear qhr); (try clear p1); (try clear p19); (try clear p190); (try clear p192); (try clear p194); (try clear p195); (try clear p197); (try clear p198); (try clear p2); (try clear p6); (try clear q1); (try clear q19); (try clear q190); (try clear q192); (try clear q194); (try clear q195); (try clear q197); (try clear q198); obtain ⟨x4_8, qd2, rfl, rfl, HA, HK8, qbk, HB⟩ := hrel
                      cases gk with
                      | zero => exact absurd HA.out (by simp [qav.l3])
                      | succ k8 =>
                       have H := HA.out; clear HA; simp only [qav.l3] at H
                       by_cases c41 : qd2 < ((qaT (qaB l0_2 qa8) qbU).length : Int)
                       ·
                        rw [if_pos c41] at H; have c41b0 : decide (qd2 < ((qaT (qaB l0_2 qa8) qbU).length : Int)) = true := decide_eq_true c41; clear c41
                        by_cases c42 : 0 ≤ qd2
                        ·
                         rw [if_pos c42] at H; have c42b0 : decide (0 ≤ qd2) = true := decide_eq_true c42; clear c42
                         by_cases c43 : qd2 < ((qaT (qaB l0_2 qa8) qbU).length : Int)
                         ·
                          rw [if_pos c43] at H; have c43b0 : decide (qd2 < ((qaT (qaB l0_2 qa8) qbU).length : Int)) = true := decide_eq_true c43; clear c43
                          by_cases c44 : x4_8 = true
                          ·
                           subst c44
                           have H1 : ((qas.f (rd (qaT (qaB l0_2 qa8) qbU) qd2) 0 100000).bind fun t200 => (qav.l3 k8 (l0_0.length : Int) t200 l0_2 (l0_2.length : Int) qa8 (qaB l0_2 qa8) ((qaB l0_2 qa8).length : Int) qbU (qaT (qaB l0_2 qa8) qbU) ((qaT (qaB l0_2 qa8) qbU).length : Int) (wrap64 (qd2 + 1)) l0_0 l0_1 l0_2)) = some r := by rw [if_pos rfl] at H; exact H
                           clear H; have H := H1; clear H1; replace H := Option.bind_eq_some_iff.mp H; obtain ⟨t200, A450, H⟩ := H; replace H : (qav.l3 k8 (l0_0.length : Int) t200 l0_2 (l0_2.length : Int) qa8 (qaB l0_2 qa8) ((qaB l0_2 qa8).length : Int) qbU (qaT (qaB l0_2 qa8) qbU) ((qaT (qaB l0_2 qa8) qbU).length : Int) (wrap64 (qd2 + 1)) l0_0 l0_1 l0_2) = some r := H; have A45 := qaa.mk A450; clear A450; have H' := qaa.mk H; clear H; have p199 : 0 ≤ (qd2 : Int) := of_decide_eq_true (by first | (with_reducible assumption) | assumption); have q199 : qd2 < ((qaT (qaB l0_2 qa8) qbU).length : Int) := of_decide_eq_true (by first | (with_reducible assumption) | assumption); obtain ⟨quJ, e199, qhs⟩ := Kd.at_int qot.out qd2 p199 q199; cases e199; replace qhs := (HB.out.cell (World.block_lt_of_cell? w _ qhs)).trans qhs; replace p199 := eq_true p199; replace q199 := eq_true q199
                           go_wp2_with (first | (go_at_call 65; (with_reducible refine (qas.calls (rd (qaT (qaB l0_2 qa8) qbU) qd2) 0 100000 t200 _ A45.out).mono ?_); rintro e w' ⟨rfl, ⟨nd, rfl⟩⟩))
                           go_roundg k8
                           case measure => have := HJ1.out; have := HK2.out; have := HJ10.out; have := HK4.out; have := HJ28.out; have := HK6.out; have := HJ33.out; have := HK8.out; omega
                           case rel => exact ⟨(t200), (wrap64 (qd2 + 1)), (by first | rfl | (simp; done) | (simp [*]; done)), (by first | rfl | (simp; done) | (simp [*]; done)), H', ⟨by have := HJ1.out; have := HK2.out; have := HJ10.out; have := HK4.out; have := HJ28.out; have := HK6.out; have := HJ33.out; have := HK8.out; omega⟩, ⟨by (with_reducible repeat (first | refine qac ?_ _ | refine qae ?_ | refine qab ?_ _)); exact qbk.out⟩, ⟨by repeat (first | (with_reducible first | exact HB.out | apply qaf | apply qad | apply qah | refine qag ?_ qdU.out) | exact HB.out)⟩⟩
                          replace c44 := Bool.eq_false_iff.mpr c44; subst c44
                          have H1 : (qav.l3 k8 (l0_0.length : Int) false l0_2 (l0_2.length : Int) qa8 (qaB l0_2 qa8) ((qaB l0_2 qa8).length : Int) qbU (qaT (qaB l0_2 qa8) qbU) ((qaT (qaB l0_2 qa8) qbU).length : Int) (wrap64 (qd2 + 1)) l0_0 l0_1 l0_2) = some r := by rw [if_neg (show ¬ (false = true) by decide)] at H; exact H
                          clear H; have H := H1; clear H1; have H' := qaa.mk H; clear H; have p199 : 0 ≤ (qd2 : Int) := of_decide_eq_true (by first | (with_reducible assumption) | assumption); have q199 : qd2 < ((qaT (qaB l0_2 qa8) qbU).length : Int) := of_decide_eq_true (by first | (with_reducible assumption) | assumption); obtain ⟨quJ, e199, qhs⟩ := Kd.at_int qot.out qd2 p199 q199; cases e199; replace qhs := (HB.out.cell (World.block_lt_of_cell? w _ qhs)).trans qhs; replace p199 := eq_true p199; replace q199 := eq_true q199
                          go_wp2
                          go_roundg k8
                          case measure => have := HJ1.out; have := HK2.out; have := HJ10.out; have := HK4.out; have := HJ28.out; have := HK6.out; have := HJ33.out; have := HK8.out; omega
                          case rel => exact ⟨(false), (wrap64 (qd2 + 1)), (by first | rfl | (simp; done) | (simp [*]; done)), (by first | rfl | (simp; done) | (simp [*]; done)), H', ⟨by have := HJ1.out; have := HK2.out; have := HJ10.out; have := HK4.out; have := HJ28.out; have := HK6.out; have := HJ33.out; have := HK8.out; omega⟩, ⟨by (with_reducible repeat (first | refine qac ?_ _ | refine qae ?_ | refine qab ?_ _)); exact qbk.out⟩, ⟨by repeat (first | (with_reducible first | exact HB.out | apply qaf | apply qad | apply qah | refine qag ?_ qdU.out) | exact HB.out)⟩⟩
                         rw [if_neg c43] at H
                         exact absurd H (by simp)
                        rw [if_neg c42] at H
                        exact absurd H (by simp)
                       rw [if_neg c41] at H; have c41b0 : decide (qd2 < ((qaT (qaB l0_2 qa8) qbU).length : Int)) = false := decide_eq_false c41; clear c41; have H' := qaa.mk H; clear H
                       go_wp2
                       go_roundg k8
                       case measure => have := HJ1.out; have := HK2.out; have := HJ10.out; have := HK4.out; have := HJ28.out; have := HK6.out; have := HJ33.out; have := HK8.out; omega
                       case rel => exact ⟨(x4_8), (wrap64 (qbU + 1)), (by first | rfl | (simp; done) | (simp [*]; done)), (by first | rfl | (simp; done) | (simp [*]; done)), H', ⟨by have := HJ1.out; have := HK2.out; have := HJ10.out; have := HK4.out; have := HJ28.out; have := HK6.out; have := HJ33.out; have := HK8.out; omega⟩, ⟨by (with_reducible repeat (first | refine qac ?_ _ | refine qae ?_ | refine qab ?_ _)); exact qbk.out⟩, ⟨by repeat (first | (with_reducible first | exact HB.out | apply qaf | apply qad | apply qah | refine qag ?_ qdU.out) | exact HB.out)⟩⟩
                  rw [if_neg c33] at H
                  exact absurd H (by simp)
                 rw [if_neg c32] at H
                 exact absurd H (by simp)
                rw [if_neg c31] at H; have c31b0 : decide (qbU < ((qaB l0_2 qa8).length : Int)) = false := decide_eq_false c31; clear c31; have H' := qaa.mk H; clear H
                go_wp2
                go_roundg k6
                case measure => have := HJ1.out; have := HK2.out; have := HJ10.out; have := HK4.out; have := HJ28.out; have := HK6.out; omega
                case rel => exact ⟨(x4_6), (wrap64 (qa8 + 1)), (by first | rfl | (simp; done) | (simp [*]; done)), (by first | rfl | (simp; done) | (simp [*]; done)), H', ⟨by have := HJ1.out; have := HK2.out; have := HJ10.out; have := HK4.out; have := HJ28.out; have := HK6.out; omega⟩, ⟨by (with_reducible repeat (first | refine qac ?_ _ | refine qae ?_ | refine qab ?_ _)); exact qbk.out⟩, ⟨by repeat (first | (with_reducible first | exact HB.out | apply qaf | apply qad | apply qah | refine qag ?_ qdU.out) | exact HB.out)⟩⟩
           rw [if_neg c28] at H
           exact absurd H (by simp)
          rw [if_neg c27] at H
          exact absurd H (by simp)
         rw [if_neg c26] at H; have c26b0 : decide (qa8 < (l0_2.length : Int)) = false := decide_eq_false c26; clear c26
         by_cases c46 : x4_4 = true
         ·
          subst c46
          have H1 : (some 0) = some r := by rw [if_pos rfl] at H; exact H
          clear H; have H := H1; clear H1; obtain rfl := Option.some.inj H
          go_wp2
          go_ret
          exact ⟨by first | rfl | (simp [qaG, qaH] <;> rfl) | (simp [*, qaG, qaH] <;> rfl), by repeat (first | (with_reducible first | exact HB.out | apply qaf | apply qad | apply qah | refine qag ?_ qdU.out) | exact HB.out)⟩
         replace c46 := Bool.eq_false_iff.mpr c46; subst c46
         have H1 : (some 93) = some r := by rw [if_neg (show ¬ (false = true) by decide)] at H; exact H
         clear H; have H := H1; clear H1; obtain rfl := Option.some.inj H
         go_wp2
         go_ret
         exact ⟨by first | rfl | (simp [qaG, qaH] <;> rfl) | (simp [*, qaG, qaH] <;> rfl), by repeat (first | (with_reducible first | exact HB.out | apply qaf | apply qad | apply qah | refine qag ?_ qdU.out) | exact HB.out)⟩
end Go.Proofs.Ytmhomdohhihlcaa.P
namespace Go.Proofs.Ytmhomdohhihlcaa.P
open Go.RowKit Go.Proofs.YtmhomdohhihlcaaW.PrintWords Go.Proofs.YtmhomdohhihlcaaW.PrintLast Go.Proofs.YtmhomdohhihlcaaW.PrintMore
theorem qpU (b : Nat) (x q : Int) (w : World) (hq : w.cell? ⟨b, 0, none⟩ = some (.int .i64 q)) :
  Calls Try.prog 103 #[.int .i64 x, .pointer (some ⟨b, 0, none⟩)] w fun e w' => e = .returned (.bool (x != q)) ∧ w = w' := by
 go_enter Try.func103, Try.ntmps103
 go_wp2
 go_ret
 exact ⟨rfl, rfl⟩
set_option maxHeartbeats 4000000 in
set_option maxRecDepth 100000 in
theorem indexFunc_103.calls (A : Option Addr) (c : Nat) (l : List Int) (b : Nat) (q : Int) (w : World) (hr : Kd.C (Kd.int .i64) w A l.length l) (hq : w.cell? ⟨b, 0, none⟩ = some (.int .i64 q)) :
  Calls Try.prog 113 #[.slice A l.length c, .func (.func 103) #[] #[.pointer (some ⟨b, 0, none⟩)]] w fun e w' => (∃ r : Int, e = .returned (.int .i64 r) ∧ decide (0 ≤ r) = l.any (fun z => z != q)) ∧ qbz w w' := by
 have HR := qaa.mk hr
 have hmx : l.length ≤ 9223372036854775807 := hr.2.1
 clear hr
 go_enter Try.func113, Try.ntmps113
 go_wp2
 go_loopg [8] l.length (fun d v8 w' => ∃ (x : Int) (k : Nat), v8 = .int .i64 x ∧ qaa (x = (k : Int)) ∧ qaa (k + d = l.length) ∧ qaa ((l.take k).any (fun z => z != q) = false) ∧ qbz w w')
 case atStart => exact ⟨_, 0, rfl, ⟨rfl⟩, ⟨Nat.zero_add _⟩, ⟨by simp⟩, qbz.refl _⟩
 case round =>
  obtain ⟨x, k, rfl, HX, HD, HN, ⟨m1, rfl⟩⟩ := hrel
  by_cases hk : x < (l.length : Int)
  ·
   have hx0 : 0 ≤ x := by have := HX.out; omega
   obtain ⟨ad, ea, hA⟩ := Kd.at_int HR.out x hx0 hk
   subst ea
   have hkl : k < l.length := by have := HX.out; omega
   have HEL := qaa.mk (show rd l x = l[k] by rw [HX.out]; simp [rd, List.getD_eq_getElem?_getD, List.getElem?_eq_getElem hkl])
   have HTK := qaa.mk (show (l.take (k + 1)).any (fun z => z != q) = ((l.take k).any (fun z => z != q) || (fun z => z != q) (rd l x)) by rw [List.take_succ_eq_append_getElem hkl, List.any_append, HEL.out]; simp)
   by_cases hp : (fun z => z != q) (rd l x) = true
   ·
    have HP := qaa.mk hp; have hb : (rd l x != q) = true := HP.out; clear hp
    go_wp2_with (go_at_call 103; refine (qpU b (rd l x) q _ ?hc).mono ?_; (case hc => simpa using hq); rintro e w1 ⟨rfl, rfl⟩)
    go_ret
    refine ⟨⟨_, rfl, ?_⟩, ⟨_, rfl⟩⟩; rw [decide_eq_true (by simpa using hx0)]
    symm
    rw [List.any_eq_true]
    exact ⟨l[k], List.getElem_mem hkl, HEL.out ▸ HP.out⟩
   ·
    have HP := qaa.mk (Bool.eq_false_iff.2 hp); have hb : (rd l x != q) = false := HP.out; clear hp
    cases gk with
    | zero => exact absurd hk (by have := HX.out; have := HD.out; omega)
    | succ d =>
     go_wp2_with (go_at_call 103; refine (qpU b (rd l x) q _ ?hc).mono ?_; (case hc => simpa using hq); rintro e w1 ⟨rfl, rfl⟩)
     go_roundg d
     case measure => omega
     case rel => exact ⟨_, k + 1, rfl, ⟨by rw [HX.out]; rfl⟩, ⟨by have := HD.out; omega⟩, ⟨by rw [HTK.out, HN.out, HP.out]; rfl⟩, ⟨_, rfl⟩⟩
  ·
   go_wp2
   go_ret
   refine ⟨⟨_, rfl, ?_⟩, ⟨_, rfl⟩⟩
   have hkk : k = l.length := by have := HX.out; have := HD.out; omega
   have := HN.out
   rw [hkk, List.take_length] at this
   rw [this]
   rfl
set_option maxRecDepth 100000 in
theorem containsFunc_103.calls (A : Option Addr) (c : Nat) (l : List Int) (b : Nat) (q : Int) (w : World) (hr : Kd.C (Kd.int .i64) w A l.length l) (hq : w.cell? ⟨b, 0, none⟩ = some (.int .i64 q)) :
  Calls Try.prog 102 #[.slice A l.length c, .func (.func 103) #[] #[.pointer (some ⟨b, 0, none⟩)]] w fun e w' => e = .returned (.bool (l.any (fun z => z != q))) ∧ qbz w w' := by
 go_enter Try.func102, Try.ntmps102
 go_wp2_with (go_at_call 113; refine (indexFunc_103.calls A c l b q _ ?h1 ?h2).mono ?_; (case h1 => exact hr); (case h2 => exact hq); rintro e w' ⟨⟨r, rfl, hd⟩, ⟨n1, rfl⟩⟩; have HD := qaa.mk hd; clear hd)
 go_ret
 exact ⟨congrArg (fun b_ => Ending.returned (.bool b_)) HD.out, ⟨_, rfl⟩⟩
def qdF.f (l0 : List Int) (a1 : Int) : Option Bool := some (l0.any (fun z => z != a1))
theorem containsG.calls (b : Nat) (A0 : Option Addr) (c0 n : Nat) (l0 : List Int) (a1 : Int) (r : Bool) (w : World) (hn : n = l0.length) (hr0 : Kd.C (Kd.int .i64) w A0 l0.length l0) (hc0 : l0.length ≤ c0) (hq : w.cell? ⟨b, 0, none⟩ = some (.int .i64 a1)) (h : qdF.f l0 a1 = some r) :
  Calls Try.prog 102 #[.slice A0 n c0, .func (.func 103) #[] #[.pointer (some ⟨b, 0, none⟩)]] w fun e w' => e = .returned (.bool r) ∧ qbz w w' := by
 unfold qdF.f at h
 injection h with h
 subst h hn
 exact containsFunc_103.calls A0 c0 l0 b a1 w hr0 hq
def qdW (z : Int) : Bool := !(decide (0 ≤ z) && decide (z ≤ 100000))
theorem qpV (x : Int) (w : World) : Calls Try.prog 110 #[.int .i64 x] w fun e w' => e = .returned (.bool (qdW x)) ∧ w = w' := by
 by_cases h1 : 0 ≤ x
 ·
  by_cases h2 : x ≤ 100000
  ·
   go_enter Try.func110, Try.ntmps110
   go_wp2
   go_ret
   exact ⟨by simp [qdW, h1, h2], rfl⟩
  ·
   go_enter Try.func110, Try.ntmps110
   go_wp2
   go_ret
   exact ⟨by simp [qdW, h1, h2], rfl⟩
 ·
  go_enter Try.func110, Try.ntmps110
  go_wp2
  go_ret
  exact ⟨by simp [qdW, h1], rfl⟩
set_option maxHeartbeats 4000000 in
set_option maxRecDepth 100000 in
theorem indexFunc_110.calls (A : Option Addr) (c : Nat) (l : List Int)  (w : World) (hr : Kd.C (Kd.int .i64) w A l.length l)  :
  Calls Try.prog 113 #[.slice A l.length c, .func (.func 110) #[] #[]] w fun e w' => (∃ r : Int, e = .returned (.int .i64 r) ∧ decide (0 ≤ r) = l.any qdW) ∧ qbz w w' := by
 have HR := qaa.mk hr
 have hmx : l.length ≤ 9223372036854775807 := hr.2.1
 clear hr
 go_enter Try.func113, Try.ntmps113
 go_wp2
 go_loopg [8] l.length (fun d v8 w' => ∃ (x : Int) (k : Nat), v8 = .int .i64 x ∧ qaa (x = (k : Int)) ∧ qaa (k + d = l.length) ∧ qaa ((l.take k).any qdW = false) ∧ qbz w w')
 case atStart => exact ⟨_, 0, rfl, ⟨rfl⟩, ⟨Nat.zero_add _⟩, ⟨by simp⟩, qbz.refl _⟩
 case round =>
  obtain ⟨x, k, rfl, HX, HD, HN, ⟨m1, rfl⟩⟩ := hrel
  by_cases hk : x < (l.length : Int)
  ·
   have hx0 : 0 ≤ x := by have := HX.out; omega
   obtain ⟨ad, ea, hA⟩ := Kd.at_int HR.out x hx0 hk
   subst ea
   have hkl : k < l.length := by have := HX.out; omega
   have HEL := qaa.mk (show rd l x = l[k] by rw [HX.out]; simp [rd, List.getD_eq_getElem?_getD, List.getElem?_eq_getElem hkl])
   have HTK := qaa.mk (show (l.take (k + 1)).any qdW = ((l.take k).any qdW || qdW (rd l x)) by rw [List.take_succ_eq_append_getElem hkl, List.any_append, HEL.out]; simp)
   by_cases hp : qdW (rd l x) = true
   ·
    have HP := qaa.mk hp; have hb : qdW (rd l x) = true := HP.out; clear hp
    go_wp2_with (go_at_call 110; refine (qpV (rd l x) _).mono ?_; rintro e w1 ⟨rfl, rfl⟩)
    go_ret
    refine ⟨⟨_, rfl, ?_⟩, ⟨_, rfl⟩⟩; rw [decide_eq_true (by simpa using hx0)]
    symm
    rw [List.any_eq_true]
    exact ⟨l[k], List.getElem_mem hkl, HEL.out ▸ HP.out⟩
   ·
    have HP := qaa.mk (Bool.eq_false_iff.2 hp); have hb : qdW (rd l x) = false := HP.out; clear hp
    cases gk with
    | zero => exact absurd hk (by have := HX.out; have := HD.out; omega)
    | succ d =>
     go_wp2_with (go_at_call 110; refine (qpV (rd l x) _).mono ?_; rintro e w1 ⟨rfl, rfl⟩)
     go_roundg d
     case measure => omega
     case rel => exact ⟨_, k + 1, rfl, ⟨by rw [HX.out]; rfl⟩, ⟨by have := HD.out; omega⟩, ⟨by rw [HTK.out, HN.out, HP.out]; rfl⟩, ⟨_, rfl⟩⟩
  ·
   go_wp2
   go_ret
   refine ⟨⟨_, rfl, ?_⟩, ⟨_, rfl⟩⟩
   have hkk : k = l.length := by have := HX.out; have := HD.out; omega
   have := HN.out
   rw [hkk, List.take_length] at this
   rw [this]
   rfl
set_option maxRecDepth 100000 in
theorem containsFunc_110.calls (A : Option Addr) (c : Nat) (l : List Int)  (w : World) (hr : Kd.C (Kd.int .i64) w A l.length l)  :
  Calls Try.prog 102 #[.slice A l.length c, .func (.func 110) #[] #[]] w fun e w' => e = .returned (.bool (l.any qdW)) ∧ qbz w w' := by
 go_enter Try.func102, Try.ntmps102
 go_wp2_with (go_at_call 113; refine (indexFunc_110.calls A c l  _ ?h1 ).mono ?_; (case h1 => exact hr);  rintro e w' ⟨⟨r, rfl, hd⟩, ⟨n1, rfl⟩⟩; have HD := qaa.mk hd; clear hd)
 go_ret
 exact ⟨congrArg (fun b_ => Ending.returned (.bool b_)) HD.out, ⟨_, rfl⟩⟩
def qfQ.f (l0 : List Int) : Option Bool := some (l0.any qdW)
theorem containsR.calls (A0 : Option Addr) (c0 : Nat) (l0 : List Int) (r : Bool) (w : World) (hr0 : Kd.C (Kd.int .i64) w A0 l0.length l0) (hc0 : l0.length ≤ c0) (h : qfQ.f l0 = some r) :
  Calls Try.prog 102 #[.slice A0 l0.length c0, .func (.func 110) #[] #[]] w fun e w' => e = .returned (.bool r) ∧ qbz w w' := by
 unfold qfQ.f at h
 injection h with h
 subst h
 exact containsFunc_110.calls A0 c0 l0 w hr0
end Go.Proofs.Ytmhomdohhihlcaa.P
