/- What the statement StockPlays leans on, part 2 of 6: contracts of the program's functions; conditions: none. -/
import Derived.Test.YtmhomdohhihlcaaStockPlaysx0
set_option linter.unusedVariables false
set_option linter.unusedSimpArgs false
set_option linter.constructorNameAsVariable false
namespace Go.Proofs.Ytmhomdohhihlcaa.P
open Go.RowKit Go.Proofs.YtmhomdohhihlcaaW.PrintWords Go.Proofs.YtmhomdohhihlcaaW.PrintLast Go.Proofs.YtmhomdohhihlcaaW.PrintMore
attribute [local go_sem] qbT qbR qb7 qb6 qbH qbG qbS qbU
mutual
def qaw.j0 : Nat → List Int → List Int → Bool → List Int → List Int → List Int → Int → Int → Option (List Int × Int)
 | 0, _, _, _, _, _, _, _, _ => none
 | k + 1, x1, x2, x9, qfd, qfe, qff, qfg, qfh => qaw.l0 k x1 x2 x9 0 qfd qfe qff qfg qfh
def qaw.l0 : Nat → List Int → List Int → Bool → Int → List Int → List Int → List Int → Int → Int → Option (List Int × Int)
 | 0, _, _, _, _, _, _, _, _, _ => none
 | k + 1, x1, x2, x9, x10, qfd, qfe, qff, qfg, qfh => if x9 = true then (qaw.j2 k x1 x2 x9 x10 (decide (x10 < (x1.length : Int))) qfd qfe qff qfg qfh) else (qaw.j2 k x1 x2 x9 x10 false qfd qfe qff qfg qfh)
def qaw.j2 : Nat → List Int → List Int → Bool → Int → Bool → List Int → List Int → List Int → Int → Int → Option (List Int × Int)
 | 0, _, _, _, _, _, _, _, _, _, _ => none
 | k + 1, x1, x2, x9, x10, x39, qfd, qfe, qff, qfg, qfh => if x39 = true then (if 0 ≤ x10 then (if x10 < (x1.length : Int) then ((qat.f (rd x1 x10) 0 100000000).bind fun t159 => (if t159 = true then (if x10 < (x2.length : Int) then ((qat.f (rd x2 x10) 0 100000).bind fun t161 => (qaw.l0 k x1 x2 t161 (wrap64 (x10 + 1)) qfd qfe qff qfg qfh)) else (none)) else (qaw.l0 k x1 x2 false (wrap64 (x10 + 1)) qfd qfe qff qfg qfh))) else (none)) else (none)) else (if x9 = true then ((qci.f qfd qfe qff qfg qfh).bind fun qeq => (qaw.l1 k x1 x2 ([] : List Int) (x1.length : Int) 0 qfd qfe qff qfg qfh qeq.1 qeq.2.1 qeq.2.2.1 qeq.2.2.2.1 qeq.2.2.2.2.1 qeq.2.2.2.2.2)) else (some (([] : List Int), 92)))
def qaw.l1 : Nat → List Int → List Int → List Int → Int → Int → List Int → List Int → List Int → Int → Int → Int → Int → Int → Int → Int → Int → Option (List Int × Int)
 | 0, _, _, _, _, _, _, _, _, _, _, _, _, _, _, _, _ => none
 | k + 1, x1, x2, x13, x59, x60, qfd, qfe, qff, qfg, qfh, qsQ, qsR, qsS, qsT, qsU, qsV => if x60 < x59 then (if 0 ≤ x60 then (if x60 < (x1.length : Int) then (if x60 < (x2.length : Int) then ((qcG.f qfd qfe qff qfg qfh qsQ qsR qsS qsT qsU qsV (rd x1 x60) (rd x2 x60)).bind fun qjW => (if x13.length < 17592186044416 then (qaw.l1 k x1 x2 (x13 ++ [qjW.1]) x59 (wrap64 (x60 + 1)) qfd qfe qff qfg qfh qjW.2.1 qjW.2.2.1 qjW.2.2.2.1 qjW.2.2.2.2.1 qjW.2.2.2.2.2.1 qjW.2.2.2.2.2.2) else (none))) else (none)) else (none)) else (none)) else (if 0 ≤ (x13.length : Int) then (if (x13.length : Int) ≤ (x13.length : Int) then (some ((x13.take ((x13.length : Int) : Int).toNat), 0)) else (none)) else (none))
end
def qaw.f (k : Nat) (l0_0 : List Int) (l0_1 : List Int) (l0_2 : List Int) (a0_3 : Int) (a0_4 : Int) (l1 : List Int) (l2 : List Int) : Option (List Int × Int) := (qan.f k l0_0 l0_1 l0_2 a0_3 a0_4).bind fun t156 => (if t156 = true then ((qat.f (l1.length : Int) 1 10).bind fun t157 => (if t157 = true then (qaw.j0 k l1 l2 ((l2.length : Int) == (l1.length : Int)) l0_0 l0_1 l0_2 a0_3 a0_4) else (qaw.j0 k l1 l2 false l0_0 l0_1 l0_2 a0_3 a0_4))) else (qaw.j0 k l1 l2 false l0_0 l0_1 l0_2 a0_3 a0_4))
def qaw.T15 : Bool × List (List Nat × List Nat) := (true, [([], []), ([], []), ([], []), ([], []), ([], []), ([3, 4], [3, 4]), ([5], [5]), ([], []), ([], []), ([7, 8], [7, 8]), ([9], [9]), ([0, 1, 2, 6, 10], [0, 1, 2, 6, 10]), ([11], [11]), ([12], [12]), ([12], [12]), ([], []), ([13, 11, 0, 1, 2, 3, 4, 5, 6, 7, 8, 9, 10, 11, 12, 13, 15], [13]), ([15, 14, 16, 0, 1, 2, 3, 4, 5, 6, 7, 8, 9, 10, 11, 12, 13, 14, 15, 16], [14, 15])])
def qaw.B15 : List Nat := [0, 0, 0, 0, 0, 24, 56, 0, 0, 384, 896, 2047, 4095, 8191, 8191, 0, 49151, 131071]
theorem qaw.tab15 : rtab .any (qjS Try.f25 15) = qaw.T15 := by kernel_rfl
theorem qaw.bits15 : qfC qaw.T15.2 qaw.B15 = true := by kernel_rfl
set_option maxHeartbeats 8000000 in
set_option maxRecDepth 100000 in
theorem qaw.calls (k : Nat) (A0_0 : Option Addr) (c0_0 : Nat) (l0_0 : List Int) (A0_1 : Option Addr) (c0_1 : Nat) (l0_1 : List Int) (A0_2 : Option Addr) (c0_2 : Nat) (l0_2 : List Int) (a0_3 : Int) (a0_4 : Int) (A1 : Option Addr) (c1 : Nat) (l1 : List Int) (A2 : Option Addr) (c2 : Nat) (l2 : List Int) (r1 : List Int) (r2 : Int) (w : World) (qcQ : Kd.C (Kd.int .i64) w A0_0 l0_0.length l0_0) (qcV : l0_0.length ≤ c0_0) (qcH : Kd.C (Kd.int .i64) w A0_1 l0_1.length l0_1) (qcL : l0_1.length ≤ c0_1) (qcI : Kd.C (Kd.int .i64) w A0_2 l0_2.length l0_2) (qcM : l0_2.length ≤ c0_2) (hr1 : Kd.C (Kd.int .i64) w A1 l1.length l1) (hc1 : l1.length ≤ c1) (hr2 : Kd.C (Kd.int .i64) w A2 l2.length l2) (hc2 : l2.length ≤ c2) (h : qaw.f k l0_0 l0_1 l0_2 a0_3 a0_4 l1 l2 = some (r1, r2)) :
  Calls Try.prog 25 #[.agg #[.slice A0_0 l0_0.length c0_0, .slice A0_1 l0_1.length c0_1, .slice A0_2 l0_2.length c0_2, .int .i64 a0_3, .int .i64 a0_4], .slice A1 l1.length c1, .slice A2 l2.length c2] w fun e w' => ∃ v0_ : Value, e = .returned (.tuple #[v0_, .int .i64 r2]) ∧ Kd.V (Kd.int .i64) 3 w' w.heap.size (fun k_ => (w.heap.size ≤ k_)) v0_ r1 ∧ Below w.heap.size w w' := by
 have hu39 := Try.underlying39
 have qpP := Try.underlying111
 have quU := Try.underlying115
 have qb9 := qaa.mk qcQ
 have qcx := qaa.mk qcV
 clear qcQ qcV
 have qb2 := qaa.mk qcH
 have qcj := qaa.mk qcL
 clear qcH qcL
 have qb8 := qaa.mk qcI
 have qck := qaa.mk qcM
 clear qcI qcM
 have HR1 := qaa.mk hr1
 have HC1 := qaa.mk hc1
 clear hr1 hc1
 have HR2 := qaa.mk hr2
 have HC2 := qaa.mk hc2
 clear hr2 hc2
 have HB := qaa.mk (Below.refl w.heap.size w)
 have H : ((qan.f k l0_0 l0_1 l0_2 a0_3 a0_4).bind fun t156 => (if t156 = true then ((qat.f (l1.length : Int) 1 10).bind fun t157 => (if t157 = true then (qaw.j0 k l1 l2 ((l2.length : Int) == (l1.length : Int)) l0_0 l0_1 l0_2 a0_3 a0_4) else (qaw.j0 k l1 l2 false l0_0 l0_1 l0_2 a0_3 a0_4))) else (qaw.j0 k l1 l2 false l0_0 l0_1 l0_2 a0_3 a0_4))) = some (r1, r2) := h
 clear h
 have HC4 := qaa.mk H
 clear H
 go_enter Try.func25, Try.ntmps25
 go_upto_region 2 with (first | ((with_reducible refine qaN (N := 3) rfl ?_); (try (refine qdG (by rfl) ?_; dsimp only)); refine qba ?hg (N := 3) ?hd (cs := #[.slice A0_0 l0_0.length c0_0, .slice A0_1 l0_1.length c0_1, .slice A0_2 l0_2.length c0_2, .int .i64 a0_3, .int .i64 a0_4]) (t := 39) ?hr ?_; (case hd => rfl); (case hg => rfl); (case hr => first | (go_simp; done) | (go_simp; rfl)); intro qcC hg w5 hbox hb; have n0_ := qaa.mk (qap (by repeat (first | (with_reducible first | exact HB.out | apply qac | apply qab | apply qag) | exact HB.out)) hb); have n1_ := qaa.mk (hbox); have n2_ := qaa.mk ((by rw [hg]; exact (qal (by repeat (first | (with_reducible first | exact HB.out | apply qac | apply qab | apply qag) | exact HB.out))) : w.heap.size ≤ qcC)); have n3_ := qaa.mk ((by rw [hg]; exact (qal (by repeat (first | (with_reducible first | exact HB.out | apply qac | apply qab | apply qag) | exact HB.out))) : w.heap.size ≤ qcC)); clear HB; have HB := n0_; have qbu := n1_; have qCZ := n2_; have qcD := n3_; clear n0_ n1_ n2_ n3_; clear hb hbox hg; have qiG : w5.cell? ⟨qcC, 0, none⟩ = some (.slice A0_0 l0_0.length c0_0) := (qaf qbu.out 0).trans rfl; have qiH : w5.cell? ⟨qcC, 1, none⟩ = some (.slice A0_1 l0_1.length c0_1) := (qaf qbu.out 1).trans rfl; have qja : w5.cell? ⟨qcC, 2, none⟩ = some (.slice A0_2 l0_2.length c0_2) := (qaf qbu.out 2).trans rfl; have qlg : w5.cell? ⟨qcC, 3, none⟩ = some (.int .i64 a0_3) := (qaf qbu.out 3).trans rfl; have qlh : w5.cell? ⟨qcC, 4, none⟩ = some (.int .i64 a0_4) := (qaf qbu.out 4).trans rfl; have qiI := qaj qbu.out 0; have qiJ := qaj qbu.out 1; have qjb := qaj qbu.out 2; have qli := qaj qbu.out 3; have qlj := qaj qbu.out 4) | ((with_reducible refine qaN (N := 8) rfl ?_); (try (refine qdG (by rfl) ?_; dsimp only)); refine qba ?hg (N := 8) ?hd (cs := #[.slice none 0 0, .slice none 0 0, .slice none 0 0, .int .i64 0, .int .i64 0]) (t := 111) ?hr ?_; (case hd => rfl); (case hg => rfl); (case hr => first | (go_simp; done) | (go_simp; rfl)); intro qbB hg w7 hbox hb; have n0_ := qaa.mk (qam (g := qcC) (o := .cells #[.slice A0_0 l0_0.length c0_0, .slice A0_1 l0_1.length c0_1, .slice A0_2 l0_2.length c0_2, .int .i64 a0_3, .int .i64 a0_4] 39 (0, 0)) (by (with_reducible repeat (first | refine qae ?_ _ | refine qai ?_ | refine qad ?_ _)); exact qbu.out) hb); have n1_ := qaa.mk (qap (by repeat (first | (with_reducible first | exact HB.out | apply qac | apply qab | apply qag | refine qah ?_ qcD.out) | exact HB.out)) hb); have n2_ := qaa.mk (hbox); have n3_ := qaa.mk ((by rw [hg]; exact (qal (by repeat (first | (with_reducible first | exact HB.out | apply qac | apply qab | apply qag | refine qah ?_ qcD.out) | exact HB.out))) : w.heap.size ≤ qbB)); have n4_ := qaa.mk ((by rw [hg]; exact (qal (by repeat (first | (with_reducible first | exact HB.out | apply qac | apply qab | apply qag | refine qah ?_ qcD.out) | exact HB.out))) : w.heap.size ≤ qbB)); have n5_ := qaa.mk ((by rw [hg]; exact Nat.ne_of_lt (qaL (g := qcC) (o := .cells #[.slice A0_0 l0_0.length c0_0, .slice A0_1 l0_1.length c0_1, .slice A0_2 l0_2.length c0_2, .int .i64 a0_3, .int .i64 a0_4] 39 (0, 0)) (by (with_reducible repeat (first | refine qae ?_ _ | refine qai ?_ | refine qad ?_ _)); exact qbu.out)) : qcC ≠ qbB)); have n6_ := qaa.mk ((by rw [hg]; exact Nat.ne_of_gt (qaL (g := qcC) (o := .cells #[.slice A0_0 l0_0.length c0_0, .slice A0_1 l0_1.length c0_1, .slice A0_2 l0_2.length c0_2, .int .i64 a0_3, .int .i64 a0_4] 39 (0, 0)) (by (with_reducible repeat (first | refine qae ?_ _ | refine qai ?_ | refine qad ?_ _)); exact qbu.out)) : qbB ≠ qcC)); clear qbu; clear HB; have qbu := n0_; have HB := n1_; have qaM := n2_; have qC0 := n3_; have qcO := n4_; have qc8 := n5_; have qhY := n6_; clear n0_ n1_ n2_ n3_ n4_ n5_ n6_; clear hb hbox hg; have hnb8 := qhY.out; have hnc8 := qc8.out; have qe2 : w7.cell? ⟨qbB, 0, none⟩ = some (.slice none 0 0) := (qaf qaM.out 0).trans rfl; have qe3 : w7.cell? ⟨qbB, 1, none⟩ = some (.slice none 0 0) := (qaf qaM.out 1).trans rfl; have qe4 : w7.cell? ⟨qbB, 2, none⟩ = some (.slice none 0 0) := (qaf qaM.out 2).trans rfl; have qlk : w7.cell? ⟨qbB, 3, none⟩ = some (.int .i64 0) := (qaf qaM.out 3).trans rfl; have qll : w7.cell? ⟨qbB, 4, none⟩ = some (.int .i64 0) := (qaf qaM.out 4).trans rfl; have qe5 := qaj qaM.out 0; have qe6 := qaj qaM.out 1; have qe7 := qaj qaM.out 2; have qlm := qaj qaM.out 3; have qln := qaj qaM.out 4))
 (try simp only [Act.put, List.setIfInBounds_toArray, List.set_cons_zero, List.set_cons_succ])
 go_cut [9] (fun v9 wc => ∃ (kq : Nat) (x9_3 : Bool), v9 = .bool x9_3 ∧ qaa (qaw.j0 kq l1 l2 x9_3 l0_0 l0_1 l0_2 a0_3 a0_4 = some (r1, r2)) ∧ qaa (kq ≤ k) ∧ qaa (wc.heap[qcC]? = some (.cells #[(.slice A0_0 l0_0.length c0_0), (.slice A0_1 l0_1.length c0_1), (.slice A0_2 l0_2.length c0_2), .int .i64 a0_3, .int .i64 a0_4] 39 (0, 0))) ∧ qaa (wc.heap[qbB]? = some (.cells #[(.slice A0_0 l0_0.length c0_0), (.slice A0_1 l0_1.length c0_1), (.slice A0_2 l0_2.length c0_2), .int .i64 a0_3, .int .i64 a0_4] 111 (0, 0))) ∧ qaa (Below w.heap.size w wc))
 case first =>
  have H := HC4.out
  clear HC4
  replace H := Option.bind_eq_some_iff.mp H
  obtain ⟨t156, A100, H⟩ := H
  replace H : (if t156 = true then ((qat.f (l1.length : Int) 1 10).bind fun t157 => (if t157 = true then (qaw.j0 k l1 l2 ((l2.length : Int) == (l1.length : Int)) l0_0 l0_1 l0_2 a0_3 a0_4) else (qaw.j0 k l1 l2 false l0_0 l0_1 l0_2 a0_3 a0_4))) else (qaw.j0 k l1 l2 false l0_0 l0_1 l0_2 a0_3 a0_4)) = some (r1, r2) := H
  have A10 := qaa.mk A100
  clear A100
  by_cases c11 : t156 = true
  ·
   subst c11
   have H1 : ((qat.f (l1.length : Int) 1 10).bind fun t157 => (if t157 = true then (qaw.j0 k l1 l2 ((l2.length : Int) == (l1.length : Int)) l0_0 l0_1 l0_2 a0_3 a0_4) else (qaw.j0 k l1 l2 false l0_0 l0_1 l0_2 a0_3 a0_4))) = some (r1, r2) := by rw [if_pos rfl] at H; exact H
   clear H
   have H := H1
   clear H1
   replace H := Option.bind_eq_some_iff.mp H
   obtain ⟨t157, A120, H⟩ := H
   replace H : (if t157 = true then (qaw.j0 k l1 l2 ((l2.length : Int) == (l1.length : Int)) l0_0 l0_1 l0_2 a0_3 a0_4) else (qaw.j0 k l1 l2 false l0_0 l0_1 l0_2 a0_3 a0_4)) = some (r1, r2) := H
   have A12 := qaa.mk A120
   clear A120
   by_cases c13 : t157 = true
   ·
    subst c13
    have H1 : (qaw.j0 k l1 l2 ((l2.length : Int) == (l1.length : Int)) l0_0 l0_1 l0_2 a0_3 a0_4) = some (r1, r2) := by rw [if_pos rfl] at H; exact H
    clear H; have H := H1; clear H1; have H' := qaa.mk H; clear H; have qC1 := qhY.out; have qC2 := qc8.out; have qem : w7.cell? ⟨qbB, 0, none⟩ = some (.slice none 0 0) := (qaf qaM.out 0).trans rfl; have qen : w7.cell? ⟨qbB, 1, none⟩ = some (.slice none 0 0) := (qaf qaM.out 1).trans rfl; have qeP : w7.cell? ⟨qbB, 2, none⟩ = some (.slice none 0 0) := (qaf qaM.out 2).trans rfl; have qeQ : w7.cell? ⟨qbB, 3, none⟩ = some (.int .i64 0) := (qaf qaM.out 3).trans rfl; have qeR : w7.cell? ⟨qbB, 4, none⟩ = some (.int .i64 0) := (qaf qaM.out 4).trans rfl; have qeo := qaj qaM.out 0; have qep := qaj qaM.out 1; have qeS := qaj qaM.out 2; have qeT := qaj qaM.out 3; have qeU := qaj qaM.out 4
    go_wp2_with (first | ((with_reducible refine qaz (f := 76) rfl ?_); refine qbd (some 20) rfl rfl Try.func76 (by kernel_rfl) rfl #[.agg #[.slice A0_0 l0_0.length c0_0, .slice A0_1 l0_1.length c0_1, .slice A0_2 l0_2.length c0_2, .int .i64 a0_3, .int .i64 a0_4]] rfl (by (try simp only [List.map_toArray, List.map_cons, List.map_nil]); first | done | rfl | (simp only [List.length_drop, List.length_take]; rfl)) ?_; (with_reducible refine (qan.calls k _ _ l0_0 _ _ l0_1 _ _ l0_2 a0_3 a0_4 true _ ?side1 ?side2 ?side3 ?side4 ?side5 ?side6 A10.out).mono ?_); (case side1 => exact Kd.C_below qb9.out (by repeat (first | (with_reducible first | exact HB.out | apply qac | apply qab | apply qag | refine qah ?_ qcD.out | refine qah ?_ qcO.out) | exact HB.out))); (case side2 => exact qcx.out); (case side3 => exact Kd.C_below qb2.out (by repeat (first | (with_reducible first | exact HB.out | apply qac | apply qab | apply qag | refine qah ?_ qcD.out | refine qah ?_ qcO.out) | exact HB.out))); (case side4 => exact qcj.out); (case side5 => exact Kd.C_below qb8.out (by repeat (first | (with_reducible first | exact HB.out | apply qac | apply qab | apply qag | refine qah ?_ qcD.out | refine qah ?_ qcO.out) | exact HB.out))); (case side6 => exact qck.out); rintro e w16 ⟨rfl, hb⟩; refine ⟨_, rfl, ?_⟩; have n0_ := qaa.mk (qam (g := qcC) (o := .cells #[.slice A0_0 l0_0.length c0_0, .slice A0_1 l0_1.length c0_1, .slice A0_2 l0_2.length c0_2, .int .i64 a0_3, .int .i64 a0_4] 39 (0, 0)) (by (with_reducible repeat (first | refine qae ?_ _ | refine qai ?_ | refine qad ?_ _)); refine qao ?_ qc8.out _; (with_reducible repeat (first | refine qae ?_ _ | refine qai ?_ | refine qad ?_ _)); refine qao ?_ qc8.out _; (with_reducible repeat (first | refine qae ?_ _ | refine qai ?_ | refine qad ?_ _)); refine qao ?_ qc8.out _; (with_reducible repeat (first | refine qae ?_ _ | refine qai ?_ | refine qad ?_ _)); refine qao ?_ qc8.out _; (with_reducible repeat (first | refine qae ?_ _ | refine qai ?_ | refine qad ?_ _)); refine qao ?_ qc8.out _; (with_reducible repeat (first | refine qae ?_ _ | refine qai ?_ | refine qad ?_ _)); exact qbu.out) hb); have n1_ := qaa.mk (qam (g := qbB) (o := .cells #[.slice A0_0 l0_0.length c0_0, .slice A0_1 l0_1.length c0_1, .slice A0_2 l0_2.length c0_2, .int .i64 a0_3, .int .i64 a0_4] 111 (0, 0)) (by (with_reducible repeat (first | refine qae ?_ _ | refine qai ?_ | refine qad ?_ _)); refine qaE (cs := #[.slice A0_0 l0_0.length c0_0, .slice A0_1 l0_1.length c0_1, .slice A0_2 l0_2.length c0_2, .int .i64 a0_3, .int .i64 0]) ?_ 4 _ rfl; (with_reducible repeat (first | refine qae ?_ _ | refine qai ?_ | refine qad ?_ _)); refine qaE (cs := #[.slice A0_0 l0_0.length c0_0, .slice A0_1 l0_1.length c0_1, .slice A0_2 l0_2.length c0_2, .int .i64 0, .int .i64 0]) ?_ 3 _ rfl; (with_reducible repeat (first | refine qae ?_ _ | refine qai ?_ | refine qad ?_ _)); refine qaE (cs := #[.slice A0_0 l0_0.length c0_0, .slice A0_1 l0_1.length c0_1, .slice none 0 0, .int .i64 0, .int .i64 0]) ?_ 2 _ rfl; (with_reducible repeat (first | refine qae ?_ _ | refine qai ?_ | refine qad ?_ _)); refine qaE (cs := #[.slice A0_0 l0_0.length c0_0, .slice none 0 0, .slice none 0 0, .int .i64 0, .int .i64 0]) ?_ 1 _ rfl; (with_reducible repeat (first | refine qae ?_ _ | refine qai ?_ | refine qad ?_ _)); refine qaE (cs := #[.slice none 0 0, .slice none 0 0, .slice none 0 0, .int .i64 0, .int .i64 0]) ?_ 0 _ rfl; (with_reducible repeat (first | refine qae ?_ _ | refine qai ?_ | refine qad ?_ _)); exact qaM.out) hb); have n2_ := qaa.mk (qap (by repeat (first | (with_reducible first | exact HB.out | apply qac | apply qab | apply qag | refine qah ?_ qcD.out | refine qah ?_ qcO.out) | exact HB.out)) hb); clear qbu; clear qaM; clear HB; have qbu := n0_; have qaM := n1_; have HB := n2_; clear n0_ n1_ n2_; (try clear hb); (try clear hb2); (try clear hk); (try clear hi)) | (go_at_call 65; (with_reducible refine (qat.calls (l1.length : Int) 1 10 true _ A12.out).mono ?_); rintro e w' ⟨rfl, ⟨nd, rfl⟩⟩))
    go_meet
    case rel => exact ⟨_, (((l2.length : Int) == (l1.length : Int))), (by first | rfl | (simp; done) | (simp [*]; done)), H', ⟨by first | omega | exact Nat.le_refl _⟩, ⟨by (with_reducible repeat (first | refine qae ?_ _ | refine qai ?_ | refine qad ?_ _)); exact qbu.out⟩, ⟨by (with_reducible repeat (first | refine qae ?_ _ | refine qai ?_ | refine qad ?_ _)); exact qaM.out⟩, ⟨by repeat (first | (with_reducible first | exact HB.out | apply qac | apply qab | apply qag | refine qah ?_ qcD.out | refine qah ?_ qcO.out) | exact HB.out)⟩⟩
   replace c13 := Bool.eq_false_iff.mpr c13
   subst c13
   have H1 : (qaw.j0 k l1 l2 false l0_0 l0_1 l0_2 a0_3 a0_4) = some (r1, r2) := by rw [if_neg (show ¬ (false = true) by decide)] at H; exact H
   clear H
   have H := H1
   clear H1
   have H' := qaa.mk H
   clear H
   have quV := qhY.out
   have quW := qc8.out
   have qgx : w7.cell? ⟨qbB, 0, none⟩ = some (.slice none 0 0) := (qaf qaM.out 0).trans rfl
   have qgy : w7.cell? ⟨qbB, 1, none⟩ = some (.slice none 0 0) := (qaf qaM.out 1).trans rfl
   have qgz : w7.cell? ⟨qbB, 2, none⟩ = some (.slice none 0 0) := (qaf qaM.out 2).trans rfl
   have qjc : w7.cell? ⟨qbB, 3, none⟩ = some (.int .i64 0) := (qaf qaM.out 3).trans rfl
   have qjd : w7.cell? ⟨qbB, 4, none⟩ = some (.int .i64 0) := (qaf qaM.out 4).trans rfl
   have qgA := qaj qaM.out 0
   have qgB := qaj qaM.out 1
   have qgC := qaj qaM.out 2
   have qje := qaj qaM.out 3
   have qjf := qaj qaM.out 4
   go_wp2_with (first | ((with_reducible refine qaz (f := 76) rfl ?_); refine qbd (some 20) rfl rfl Try.func76 (by kernel_rfl) rfl #[.agg #[.slice A0_0 l0_0.length c0_0, .slice A0_1 l0_1.length c0_1, .slice A0_2 l0_2.length c0_2, .int .i64 a0_3, .int .i64 a0_4]] rfl (by (try simp only [List.map_toArray, List.map_cons, List.map_nil]); first | done | rfl | (simp only [List.length_drop, List.length_take]; rfl)) ?_; (with_reducible refine (qan.calls k _ _ l0_0 _ _ l0_1 _ _ l0_2 a0_3 a0_4 true _ ?side1 ?side2 ?side3 ?side4 ?side5 ?side6 A10.out).mono ?_); (case side1 => exact Kd.C_below qb9.out (by repeat (first | (with_reducible first | exact HB.out | apply qac | apply qab | apply qag | refine qah ?_ qcD.out | refine qah ?_ qcO.out) | exact HB.out))); (case side2 => exact qcx.out); (case side3 => exact Kd.C_below qb2.out (by repeat (first | (with_reducible first | exact HB.out | apply qac | apply qab | apply qag | refine qah ?_ qcD.out | refine qah ?_ qcO.out) | exact HB.out))); (case side4 => exact qcj.out); (case side5 => exact Kd.C_below qb8.out (by repeat (first | (with_reducible first | exact HB.out | apply qac | apply qab | apply qag | refine qah ?_ qcD.out | refine qah ?_ qcO.out) | exact HB.out))); (case side6 => exact qck.out); rintro e w19 ⟨rfl, hb⟩; refine ⟨_, rfl, ?_⟩; have n0_ := qaa.mk (qam (g := qcC) (o := .cells #[.slice A0_0 l0_0.length c0_0, .slice A0_1 l0_1.length c0_1, .slice A0_2 l0_2.length c0_2, .int .i64 a0_3, .int .i64 a0_4] 39 (0, 0)) (by (with_reducible repeat (first | refine qae ?_ _ | refine qai ?_ | refine qad ?_ _)); refine qao ?_ qc8.out _; (with_reducible repeat (first | refine qae ?_ _ | refine qai ?_ | refine qad ?_ _)); refine qao ?_ qc8.out _; (with_reducible repeat (first | refine qae ?_ _ | refine qai ?_ | refine qad ?_ _)); refine qao ?_ qc8.out _; (with_reducible repeat (first | refine qae ?_ _ | refine qai ?_ | refine qad ?_ _)); refine qao ?_ qc8.out _; (with_reducible repeat (first | refine qae ?_ _ | refine qai ?_ | refine qad ?_ _)); refine qao ?_ qc8.out _; (with_reducible repeat (first | refine qae ?_ _ | refine qai ?_ | refine qad ?_ _)); exact qbu.out) hb); have n1_ := qaa.mk (qam (g := qbB) (o := .cells #[.slice A0_0 l0_0.length c0_0, .slice A0_1 l0_1.length c0_1, .slice A0_2 l0_2.length c0_2, .int .i64 a0_3, .int .i64 a0_4] 111 (0, 0)) (by (with_reducible repeat (first | refine qae ?_ _ | refine qai ?_ | refine qad ?_ _)); refine qaE (cs := #[.slice A0_0 l0_0.length c0_0, .slice A0_1 l0_1.length c0_1, .slice A0_2 l0_2.length c0_2, .int .i64 a0_3, .int .i64 0]) ?_ 4 _ rfl; (with_reducible repeat (first | refine qae ?_ _ | refine qai ?_ | refine qad ?_ _)); refine qaE (cs := #[.slice A0_0 l0_0.length c0_0, .slice A0_1 l0_1.length c0_1, .slice A0_2 l0_2.length c0_2, .int .i64 0, .int .i64 0]) ?_ 3 _ rfl; (with_reducible repeat (first | refine qae ?_ _ | refine qai ?_ | refine qad ?_ _)); refine qaE (cs := #[.slice A0_0 l0_0.length c0_0, .slice A0_1 l0_1.length c0_1, .slice none 0 0, .int .i64 0, .int .i64 0]) ?_ 2 _ rfl; (with_reducible repeat (first | refine qae ?_ _ | refine qai ?_ | refine qad ?_ _)); refine qaE (cs := #[.slice A0_0 l0_0.length c0_0, .slice none 0 0, .slice none 0 0, .int .i64 0, .int .i64 0]) ?_ 1 _ rfl; (with_reducible repeat (first | refine qae ?_ _ | refine qai ?_ | refine qad ?_ _)); refine qaE (cs := #[.slice none 0 0, .slice none 0 0, .slice none 0 0, .int .i64 0, .int .i64 0]) ?_ 0 _ rfl; (with_reducible repeat (first | refine qae ?_ _ | refine qai ?_ | refine qad ?_ _)); exact qaM.out) hb); have n2_ := qaa.mk (qap (by repeat (first | (with_reducible first | exact HB.out | apply qac | apply qab | apply qag | refine qah ?_ qcD.out | refine qah ?_ qcO.out) | exact HB.out)) hb); clear qbu; clear qaM; clear HB; have qbu := n0_; have qaM := n1_; have HB := n2_; clear n0_ n1_ n2_; (try clear hb); (try clear hb2); (try clear hk); (try clear hi)) | (go_at_call 65; (with_reducible refine (qat.calls (l1.length : Int) 1 10 false _ A12.out).mono ?_); rintro e w' ⟨rfl, ⟨nd, rfl⟩⟩))
   go_meet
   case rel => exact ⟨_, (false), (by first | rfl | (simp; done) | (simp [*]; done)), H', ⟨by first | omega | exact Nat.le_refl _⟩, ⟨by (with_reducible repeat (first | refine qae ?_ _ | refine qai ?_ | refine qad ?_ _)); exact qbu.out⟩, ⟨by (with_reducible repeat (first | refine qae ?_ _ | refine qai ?_ | refine qad ?_ _)); exact qaM.out⟩, ⟨by repeat (first | (with_reducible first | exact HB.out | apply qac | apply qab | apply qag | refine qah ?_ qcD.out | refine qah ?_ qcO.out) | exact HB.out)⟩⟩
  replace c11 := Bool.eq_false_iff.mpr c11
  subst c11
  have H1 : (qaw.j0 k l1 l2 false l0_0 l0_1 l0_2 a0_3 a0_4) = some (r1, r2) := by rw [if_neg (show ¬ (false = true) by decide)] at H; exact H
  clear H
  have H := H1
  clear H1
  have H' := qaa.mk H
  clear H
  have quX := qhY.out
  have quY := qc8.out
  have qfU : w7.cell? ⟨qbB, 0, none⟩ = some (.slice none 0 0) := (qaf qaM.out 0).trans rfl
  have qfV : w7.cell? ⟨qbB, 1, none⟩ = some (.slice none 0 0) := (qaf qaM.out 1).trans rfl
  have qfW : w7.cell? ⟨qbB, 2, none⟩ = some (.slice none 0 0) := (qaf qaM.out 2).trans rfl
  have qjg : w7.cell? ⟨qbB, 3, none⟩ = some (.int .i64 0) := (qaf qaM.out 3).trans rfl
  have qjh : w7.cell? ⟨qbB, 4, none⟩ = some (.int .i64 0) := (qaf qaM.out 4).trans rfl
  have qfX := qaj qaM.out 0
  have qfY := qaj qaM.out 1
  have qfZ := qaj qaM.out 2
  have qji := qaj qaM.out 3
  have qjj := qaj qaM.out 4
  go_wp2_with (first | ((with_reducible refine qaz (f := 76) rfl ?_); refine qbd (some 20) rfl rfl Try.func76 (by kernel_rfl) rfl #[.agg #[.slice A0_0 l0_0.length c0_0, .slice A0_1 l0_1.length c0_1, .slice A0_2 l0_2.length c0_2, .int .i64 a0_3, .int .i64 a0_4]] rfl (by (try simp only [List.map_toArray, List.map_cons, List.map_nil]); first | done | rfl | (simp only [List.length_drop, List.length_take]; rfl)) ?_; (with_reducible refine (qan.calls k _ _ l0_0 _ _ l0_1 _ _ l0_2 a0_3 a0_4 false _ ?side1 ?side2 ?side3 ?side4 ?side5 ?side6 A10.out).mono ?_); (case side1 => exact Kd.C_below qb9.out (by repeat (first | (with_reducible first | exact HB.out | apply qac | apply qab | apply qag | refine qah ?_ qcD.out | refine qah ?_ qcO.out) | exact HB.out))); (case side2 => exact qcx.out); (case side3 => exact Kd.C_below qb2.out (by repeat (first | (with_reducible first | exact HB.out | apply qac | apply qab | apply qag | refine qah ?_ qcD.out | refine qah ?_ qcO.out) | exact HB.out))); (case side4 => exact qcj.out); (case side5 => exact Kd.C_below qb8.out (by repeat (first | (with_reducible first | exact HB.out | apply qac | apply qab | apply qag | refine qah ?_ qcD.out | refine qah ?_ qcO.out) | exact HB.out))); (case side6 => exact qck.out); rintro e w22 ⟨rfl, hb⟩; refine ⟨_, rfl, ?_⟩; have n0_ := qaa.mk (qam (g := qcC) (o := .cells #[.slice A0_0 l0_0.length c0_0, .slice A0_1 l0_1.length c0_1, .slice A0_2 l0_2.length c0_2, .int .i64 a0_3, .int .i64 a0_4] 39 (0, 0)) (by (with_reducible repeat (first | refine qae ?_ _ | refine qai ?_ | refine qad ?_ _)); refine qao ?_ qc8.out _; (with_reducible repeat (first | refine qae ?_ _ | refine qai ?_ | refine qad ?_ _)); refine qao ?_ qc8.out _; (with_reducible repeat (first | refine qae ?_ _ | refine qai ?_ | refine qad ?_ _)); refine qao ?_ qc8.out _; (with_reducible repeat (first | refine qae ?_ _ | refine qai ?_ | refine qad ?_ _)); refine qao ?_ qc8.out _; (with_reducible repeat (first | refine qae ?_ _ | refine qai ?_ | refine qad ?_ _)); refine qao ?_ qc8.out _; (with_reducible repeat (first | refine qae ?_ _ | refine qai ?_ | refine qad ?_ _)); exact qbu.out) hb); have n1_ := qaa.mk (qam (g := qbB) (o := .cells #[.slice A0_0 l0_0.length c0_0, .slice A0_1 l0_1.length c0_1, .slice A0_2 l0_2.length c0_2, .int .i64 a0_3, .int .i64 a0_4] 111 (0, 0)) (by (with_reducible repeat (first | refine qae ?_ _ | refine qai ?_ | refine qad ?_ _)); refine qaE (cs := #[.slice A0_0 l0_0.length c0_0, .slice A0_1 l0_1.length c0_1, .slice A0_2 l0_2.length c0_2, .int .i64 a0_3, .int .i64 0]) ?_ 4 _ rfl; (with_reducible repeat (first | refine qae ?_ _ | refine qai ?_ | refine qad ?_ _)); refine qaE (cs := #[.slice A0_0 l0_0.length c0_0, .slice A0_1 l0_1.length c0_1, .slice A0_2 l0_2.length c0_2, .int .i64 0, .int .i64 0]) ?_ 3 _ rfl; (with_reducible repeat (first | refine qae ?_ _ | refine qai ?_ | refine qad ?_ _)); refine qaE (cs := #[.slice A0_0 l0_0.length c0_0, .slice A0_1 l0_1.length c0_1, .slice none 0 0, .int .i64 0, .int .i64 0]) ?_ 2 _ rfl; (with_reducible repeat (first | refine qae ?_ _ | refine qai ?_ | refine qad ?_ _)); refine qaE (cs := #[.slice A0_0 l0_0.length c0_0, .slice none 0 0, .slice none 0 0, .int .i64 0, .int .i64 0]) ?_ 1 _ rfl; (with_reducible repeat (first | refine qae ?_ _ | refine qai ?_ | refine qad ?_ _)); refine qaE (cs := #[.slice none 0 0, .slice none 0 0, .slice none 0 0, .int .i64 0, .int .i64 0]) ?_ 0 _ rfl; (with_reducible repeat (first | refine qae ?_ _ | refine qai ?_ | refine qad ?_ _)); exact qaM.out) hb); have n2_ := qaa.mk (qap (by repeat (first | (with_reducible first | exact HB.out | apply qac | apply qab | apply qag | refine qah ?_ qcD.out | refine qah ?_ qcO.out) | exact HB.out)) hb); clear qbu; clear qaM; clear HB; have qbu := n0_; have qaM := n1_; have HB := n2_; clear n0_ n1_ n2_; (try clear hb); (try clear hb2); (try clear hk); (try clear hi)))
  go_meet
  case rel => exact ⟨_, (false), (by first | rfl | (simp; done) | (simp [*]; done)), H', ⟨by first | omega | exact Nat.le_refl _⟩, ⟨by (with_reducible repeat (first | refine qae ?_ _ | refine qai ?_ | refine qad ?_ _)); exact qbu.out⟩, ⟨by (with_reducible repeat (first | refine qae ?_ _ | refine qai ?_ | refine qad ?_ _)); exact qaM.out⟩, ⟨by repeat (first | (with_reducible first | exact HB.out | apply qac | apply qab | apply qag | refine qah ?_ qcD.out | refine qah ?_ qcO.out) | exact HB.out)⟩⟩
 case rest =>
  clear HC4
  try clear c1
  try clear c2
  try clear p2
  try clear c7
  try clear c8
  try clear c11
  try clear c13
  try clear c14
  try clear c17
  try clear c20
  try clear qem
  try clear qen
  try clear qeP
  try clear qeQ
  try clear qeR
  try clear qgx
  try clear qgy
  try clear qgz
  try clear qjc
  try clear qjd
  try clear qfU
  try clear qfV
  try clear qfW
  try clear qjg
  try clear qjh
  try clear qiG
  try clear qiH
  try clear qja
  try clear qlg
  try clear qlh
  try clear qe2
  try clear qe3
  try clear qe4
  try clear qlk
  try clear qll
  try clear qeo
  try clear qep
  try clear qeS
  try clear qeT
  try clear qeU
  try clear qgA
  try clear qgB
  try clear qgC
  try clear qje
  try clear qjf
  try clear qfX
  try clear qfY
  try clear qfZ
  try clear qji
  try clear qjj
  try clear qiI
  try clear qiJ
  try clear qjb
  try clear qli
  try clear qlj
  try clear qe5
  try clear qe6
  try clear qe7
  try clear qlm
  try clear qln
  obtain ⟨kq, x9_3, rfl, HA, HJ3, qbu, qaM, HB⟩ := hcut
  cases kq with
  | zero => exact absurd HA.out (by simp [qaw.j0])
  | succ kj3 =>
   have H := HA.out
   clear HA
   simp only [qaw.j0] at H
   have H' := qaa.mk H
   clear H
   go_wp2
   go_loopg [9, 10] kj3 (fun kq v9 v10 w' => ∃ (x9_2 : Bool) (qcy : Int), v9 = .bool x9_2 ∧ v10 = .int .i64 qcy ∧ qaa (qaw.l0 kq l1 l2 x9_2 qcy l0_0 l0_1 l0_2 a0_3 a0_4 = some (r1, r2)) ∧ qaa (kq ≤ kj3) ∧ qaa (w'.heap[qcC]? = some (.cells #[(.slice A0_0 l0_0.length c0_0), (.slice A0_1 l0_1.length c0_1), (.slice A0_2 l0_2.length c0_2), .int .i64 a0_3, .int .i64 a0_4] 39 (0, 0))) ∧ qaa (w'.heap[qbB]? = some (.cells #[(.slice A0_0 l0_0.length c0_0), (.slice A0_1 l0_1.length c0_1), (.slice A0_2 l0_2.length c0_2), .int .i64 a0_3, .int .i64 a0_4] 111 (0, 0))) ∧ qaa (Below w.heap.size w w'))
   case atStart => exact ⟨(x9_3), (0), (by first | rfl | (simp; done) | (simp [*]; done)), (by first | rfl | (simp; done) | (simp [*]; done)), H', ⟨Nat.le_refl _⟩, ⟨by (with_reducible repeat (first | refine qae ?_ _ | refine qai ?_ | refine qad ?_ _)); exact qbu.out⟩, ⟨by (with_reducible repeat (first | refine qae ?_ _ | refine qai ?_ | refine qad ?_ _)); exact qaM.out⟩, ⟨by repeat (first | (with_reducible first | exact HB.out | apply qac | apply qab | apply qag | refine qah ?_ qcD.out | refine qah ?_ qcO.out) | exact HB.out)⟩⟩
   case round =>
    clear H'; (try clear c1); (try clear c2); (try clear p2); (try clear c7); (try clear c8); (try clear c11); (try clear c13); (try clear c14); (try clear c17); (try clear c20); (try clear qem); (try clear qen); (try clear qeP); (try clear qeQ); (try clear qeR); (try clear qgx); (try clear qgy); (try clear qgz); (try clear qjc); (try clear qjd); (try clear qfU); (try clear qfV); (try clear qfW); (try clear qjg); (try clear qjh); (try clear qiG); (try clear qiH); (try clear qja); (try clear qlg); (try clear qlh); (try clear qe2); (try clear qe3); (try clear qe4); (try clear qlk); (try clear qll); (try clear qeo); (try clear qep); (try clear qeS); (try clear qeT); (try clear qeU); (try clear qgA); (try clear qgB); (try clear qgC); (try clear qje); (try clear qjf); (try clear qfX); (try clear qfY); (try clear qfZ); (try clear qji); (try clear qjj); (try clear qiI); (try clear qiJ); (try clear qjb); (try clear qli); (try clear qlj); (try clear qe5); (try clear qe6); (try clear qe7); (try clear qlm); (try clear qln); (try clear p2); obtain ⟨x9_2, qcy, rfl, rfl, HA, HK2, qbu, qaM, HB⟩ := hrel
    cases gk with
    | zero => exact absurd HA.out (by simp [qaw.l0])
    | succ k2 =>
     have H := HA.out; clear HA; simp only [qaw.l0] at H; have HC23 := qaa.mk H; clear H
     go_upto_region 4 with (fail)
     go_cut [39] (fun v39 wc => ∃ (kq : Nat) (qlo : Bool), v39 = .bool qlo ∧ qaa (qaw.j2 kq l1 l2 x9_2 qcy qlo l0_0 l0_1 l0_2 a0_3 a0_4 = some (r1, r2)) ∧ qaa (kq ≤ k2) ∧ qaa (wc.heap[qcC]? = some (.cells #[(.slice A0_0 l0_0.length c0_0), (.slice A0_1 l0_1.length c0_1), (.slice A0_2 l0_2.length c0_2), .int .i64 a0_3, .int .i64 a0_4] 39 (0, 0))) ∧ qaa (wc.heap[qbB]? = some (.cells #[(.slice A0_0 l0_0.length c0_0), (.slice A0_1 l0_1.length c0_1), (.slice A0_2 l0_2.length c0_2), .int .i64 a0_3, .int .i64 a0_4] 111 (0, 0))) ∧ qaa (Below w.heap.size w wc))
     case first =>
      have H := HC23.out; clear HC23
      by_cases c24 : x9_2 = true
      ·
       subst c24
       have H1 : (qaw.j2 k2 l1 l2 true qcy (decide (qcy < (l1.length : Int))) l0_0 l0_1 l0_2 a0_3 a0_4) = some (r1, r2) := by rw [if_pos rfl] at H; exact H
       clear H; have H := H1; clear H1; have H' := qaa.mk H; clear H
       go_wp2
       go_meet
       case rel => exact ⟨_, (decide (qcy < (l1.length : Int))), (by first | rfl | (simp; done) | (simp [*]; done)), H', ⟨by have := HJ3.out; have := HK2.out; first | omega | exact Nat.le_refl _⟩, ⟨by (with_reducible repeat (first | refine qae ?_ _ | refine qai ?_ | refine qad ?_ _)); exact qbu.out⟩, ⟨by (with_reducible repeat (first | refine qae ?_ _ | refine qai ?_ | refine qad ?_ _)); exact qaM.out⟩, ⟨by repeat (first | (with_reducible first | exact HB.out | apply qac | apply qab | apply qag | refine qah ?_ qcD.out | refine qah ?_ qcO.out) | exact HB.out)⟩⟩
      replace c24 := Bool.eq_false_iff.mpr c24; subst c24
      have H1 : (qaw.j2 k2 l1 l2 false qcy false l0_0 l0_1 l0_2 a0_3 a0_4) = some (r1, r2) := by rw [if_neg (show ¬ (false = true) by decide)] at H; exact H
      clear H; have H := H1; clear H1; have H' := qaa.mk H; clear H
      go_wp2
      go_meet
      case rel => exact ⟨_, (false), (by first | rfl | (simp; done) | (simp [*]; done)), H', ⟨by have := HJ3.out; have := HK2.out; first | omega | exact Nat.le_refl _⟩, ⟨by (with_reducible repeat (first | refine qae ?_ _ | refine qai ?_ | refine qad ?_ _)); exact qbu.out⟩, ⟨by (with_reducible repeat (first | refine qae ?_ _ | refine qai ?_ | refine qad ?_ _)); exact qaM.out⟩, ⟨by repeat (first | (with_reducible first | exact HB.out | apply qac | apply qab | apply qag | refine qah ?_ qcD.out | refine qah ?_ qcO.out) | exact HB.out)⟩⟩
     case rest =>
      clear HC23; (try clear c1); (try clear c2); (try clear p2); (try clear c7); (try clear c8); (try clear c11); (try clear c13); (try clear c14); (try clear c17); (try clear c20); (try clear c24); (try clear qem); (try clear qen); (try clear qeP); (try clear qeQ); (try clear qeR); (try clear qgx); (try clear qgy); (try clear qgz); (try clear qjc); (try clear qjd); (try clear qfU); (try clear qfV); (try clear qfW); (try clear qjg); (try clear qjh); (try clear qiG); (try clear qiH); (try clear qja); (try clear qlg); (try clear qlh); (try clear qe2); (try clear qe3); (try clear qe4); (try clear qlk); (try clear qll); (try clear qeo); (try clear qep); (try clear qeS); (try clear qeT); (try clear qeU); (try clear qgA); (try clear qgB); (try clear qgC); (try clear qje); (try clear qjf); (try clear qfX); (try clear qfY); (try clear qfZ); (try clear qji); (try clear qjj); (try clear qiI); (try clear qiJ); (try clear qjb); (try clear qli); (try clear qlj); (try clear qe5); (try clear qe6); (try clear qe7); (try clear qlm); (try clear qln); (try clear p2); obtain ⟨kq, qlo, rfl, HA, HJ22, qbu, qaM, HB⟩ := hcut
      cases kq with
      | zero => exact absurd HA.out (by simp [qaw.j2])
      | succ kj22 =>
       have H := HA.out; clear HA; simp only [qaw.j2] at H
       by_cases c25 : qlo = true
       ·
        subst c25
        have H1 : (if 0 ≤ qcy then (if qcy < (l1.length : Int) then ((qat.f (rd l1 qcy) 0 100000000).bind fun t159 => (if t159 = true then (if qcy < (l2.length : Int) then ((qat.f (rd l2 qcy) 0 100000).bind fun t161 => (qaw.l0 kj22 l1 l2 t161 (wrap64 (qcy + 1)) l0_0 l0_1 l0_2 a0_3 a0_4)) else (none)) else (qaw.l0 kj22 l1 l2 false (wrap64 (qcy + 1)) l0_0 l0_1 l0_2 a0_3 a0_4))) else (none)) else (none)) = some (r1, r2) := by rw [if_pos rfl] at H; exact H
        clear H; have H := H1; clear H1
        by_cases c26 : 0 ≤ qcy
        ·
         rw [if_pos c26] at H; have c26b0 : decide (0 ≤ qcy) = true := decide_eq_true c26; clear c26
         by_cases c27 : qcy < (l1.length : Int)
         ·
          rw [if_pos c27] at H; have c27b0 : decide (qcy < (l1.length : Int)) = true := decide_eq_true c27; clear c27; replace H := Option.bind_eq_some_iff.mp H; obtain ⟨t159, A280, H⟩ := H; replace H : (if t159 = true then (if qcy < (l2.length : Int) then ((qat.f (rd l2 qcy) 0 100000).bind fun t161 => (qaw.l0 kj22 l1 l2 t161 (wrap64 (qcy + 1)) l0_0 l0_1 l0_2 a0_3 a0_4)) else (none)) else (qaw.l0 kj22 l1 l2 false (wrap64 (qcy + 1)) l0_0 l0_1 l0_2 a0_3 a0_4)) = some (r1, r2) := H; have A28 := qaa.mk A280; clear A280
          by_cases c29 : t159 = true
          ·
           subst c29
           have H1 : (if qcy < (l2.length : Int) then ((qat.f (rd l2 qcy) 0 100000).bind fun t161 => (qaw.l0 kj22 l1 l2 t161 (wrap64 (qcy + 1)) l0_0 l0_1 l0_2 a0_3 a0_4)) else (none)) = some (r1, r2) := by rw [if_pos rfl] at H; exact H
           clear H; have H := H1; clear H1
           by_cases c30 : qcy < (l2.length : Int)
           ·
            rw [if_pos c30] at H; have c30b0 : decide (qcy < (l2.length : Int)) = true := decide_eq_true c30; clear c30; replace H := Option.bind_eq_some_iff.mp H; obtain ⟨t161, A310, H⟩ := H; replace H : (qaw.l0 kj22 l1 l2 t161 (wrap64 (qcy + 1)) l0_0 l0_1 l0_2 a0_3 a0_4) = some (r1, r2) := H; have A31 := qaa.mk A310; clear A310; have H' := qaa.mk H; clear H; have p158 : 0 ≤ (qcy : Int) := of_decide_eq_true (by first | (with_reducible assumption) | assumption); have q158 : qcy < (l1.length : Int) := of_decide_eq_true (by first | (with_reducible assumption) | assumption); obtain ⟨quZ, e158, qg6⟩ := Kd.at_int HR1.out qcy p158 q158; cases e158; replace qg6 := (HB.out.cell (World.block_lt_of_cell? w _ qg6)).trans qg6; replace p158 := eq_true p158; replace q158 := eq_true q158
            go_wp2_with (first | ((with_reducible refine qaz (f := 65) rfl ?_); refine qbd (some 46) rfl rfl Try.func65 (by kernel_rfl) rfl #[.int .i64 (rd l1 qcy), .int .i64 0, .int .i64 100000000] rfl (by (try simp only [List.map_toArray, List.map_cons, List.map_nil]); first | done | rfl | (simp only [List.length_drop, List.length_take]; rfl)) ?_; (with_reducible refine (qat.calls (rd l1 qcy) 0 100000000 true _ A28.out).mono ?_); rintro e w' ⟨rfl, ⟨nd, rfl⟩⟩; refine ⟨_, rfl, ?_⟩; have p160 : 0 ≤ (qcy : Int) := of_decide_eq_true (by first | (with_reducible assumption) | assumption); have q160 : qcy < (l2.length : Int) := of_decide_eq_true (by first | (with_reducible assumption) | assumption); obtain ⟨qC3, e160, qkj⟩ := Kd.at_int HR2.out qcy p160 q160; cases e160; replace qkj := (HB.out.cell (World.block_lt_of_cell? w _ qkj)).trans qkj; replace p160 := eq_true p160; replace q160 := eq_true q160) | (go_at_call 65; (with_reducible refine (qat.calls (rd l2 qcy) 0 100000 t161 _ A31.out).mono ?_); rintro e w' ⟨rfl, ⟨nd, rfl⟩⟩))
            go_roundg kj22
            case measure => have := HJ3.out; have := HK2.out; have := HJ22.out; omega
            case rel => exact ⟨(t161), (wrap64 (qcy + 1)), (by first | rfl | (simp; done) | (simp [*]; done)), (by first | rfl | (simp; done) | (simp [*]; done)), H', ⟨by have := HJ3.out; have := HK2.out; have := HJ22.out; omega⟩, ⟨by (with_reducible repeat (first | refine qae ?_ _ | refine qai ?_ | refine qad ?_ _)); exact qbu.out⟩, ⟨by (with_reducible repeat (first | refine qae ?_ _ | refine qai ?_ | refine qad ?_ _)); exact qaM.out⟩, ⟨by repeat (first | (with_reducible first | exact HB.out | apply qac | apply qab | apply qag | refine qah ?_ qcD.out | refine qah ?_ qcO.out) | exact HB.out)⟩⟩
           rw [if_neg c30] at H
           exact absurd H (by simp)
          replace c29 := Bool.eq_false_iff.mpr c29; subst c29
          have H1 : (qaw.l0 kj22 l1 l2 false (wrap64 (qcy + 1)) l0_0 l0_1 l0_2 a0_3 a0_4) = some (r1, r2) := by rw [if_neg (show ¬ (false = true) by decide)] at H; exact H
          clear H; have H := H1; clear H1; have H' := qaa.mk H; clear H; have p158 : 0 ≤ (qcy : Int) := of_decide_eq_true (by first | (with_reducible assumption) | assumption); have q158 : qcy < (l1.length : Int) := of_decide_eq_true (by first | (with_reducible assumption) | assumption); obtain ⟨quZ, e158, qg6⟩ := Kd.at_int HR1.out qcy p158 q158; cases e158; replace qg6 := (HB.out.cell (World.block_lt_of_cell? w _ qg6)).trans qg6; replace p158 := eq_true p158; replace q158 := eq_true q158
          go_wp2_with (first | ((with_reducible refine qaz (f := 65) rfl ?_); refine qbd (some 46) rfl rfl Try.func65 (by kernel_rfl) rfl #[.int .i64 (rd l1 qcy), .int .i64 0, .int .i64 100000000] rfl (by (try simp only [List.map_toArray, List.map_cons, List.map_nil]); first | done | rfl | (simp only [List.length_drop, List.length_take]; rfl)) ?_; (with_reducible refine (qat.calls (rd l1 qcy) 0 100000000 false _ A28.out).mono ?_); rintro e w' ⟨rfl, ⟨nd, rfl⟩⟩; refine ⟨_, rfl, ?_⟩))
          go_roundg kj22
          case measure => have := HJ3.out; have := HK2.out; have := HJ22.out; omega
          case rel => exact ⟨(false), (wrap64 (qcy + 1)), (by first | rfl | (simp; done) | (simp [*]; done)), (by first | rfl | (simp; done) | (simp [*]; done)), H', ⟨by have := HJ3.out; have := HK2.out; have := HJ22.out; omega⟩, ⟨by (with_reducible repeat (first | refine qae ?_ _ | refine qai ?_ | refine qad ?_ _)); exact qbu.out⟩, ⟨by (with_reducible repeat (first | refine qae ?_ _ | refine qai ?_ | refine qad ?_ _)); exact qaM.out⟩, ⟨by repeat (first | (with_reducible first | exact HB.out | apply qac | apply qab | apply qag | refine qah ?_ qcD.out | refine qah ?_ qcO.out) | exact HB.out)⟩⟩
         rw [if_neg c27] at H
         exact absurd H (by simp)
        rw [if_neg c26] at H
        exact absurd H (by simp)
       replace c25 := Bool.eq_false_iff.mpr c25; subst c25
       have H1 : (if x9_2 = true then ((qci.f l0_0 l0_1 l0_2 a0_3 a0_4).bind fun qeq => (qaw.l1 kj22 l1 l2 ([] : List Int) (l1.length : Int) 0 l0_0 l0_1 l0_2 a0_3 a0_4 qeq.1 qeq.2.1 qeq.2.2.1 qeq.2.2.2.1 qeq.2.2.2.2.1 qeq.2.2.2.2.2)) else (some (([] : List Int), 92))) = some (r1, r2) := by rw [if_neg (show ¬ (false = true) by decide)] at H; exact H
       clear H; have H := H1; clear H1
       by_cases c32 : x9_2 = true
       ·
        subst c32
        have H1 : ((qci.f l0_0 l0_1 l0_2 a0_3 a0_4).bind fun qeq => (qaw.l1 kj22 l1 l2 ([] : List Int) (l1.length : Int) 0 l0_0 l0_1 l0_2 a0_3 a0_4 qeq.1 qeq.2.1 qeq.2.2.1 qeq.2.2.2.1 qeq.2.2.2.2.1 qeq.2.2.2.2.2)) = some (r1, r2) := by rw [if_pos rfl] at H; exact H
        clear H; have H := H1; clear H1; replace H := Option.bind_eq_some_iff.mp H; obtain ⟨⟨t162, t163, t164, t165, t166, t167⟩, A330, H⟩ := H; replace H : (qaw.l1 kj22 l1 l2 ([] : List Int) (l1.length : Int) 0 l0_0 l0_1 l0_2 a0_3 a0_4 t162 t163 t164 t165 t166 t167) = some (r1, r2) := H; have A33 := qaa.mk A330; clear A330; have H' := qaa.mk H; clear H; have qC4 := qhY.out; have qC5 := qc8.out; have qsW : wc.cell? ⟨qbB, 0, none⟩ = some (.slice A0_0 l0_0.length c0_0) := (qaf qaM.out 0).trans rfl; have qsX : wc.cell? ⟨qbB, 1, none⟩ = some (.slice A0_1 l0_1.length c0_1) := (qaf qaM.out 1).trans rfl; have qsY : wc.cell? ⟨qbB, 2, none⟩ = some (.slice A0_2 l0_2.length c0_2) := (qaf qaM.out 2).trans rfl; have qsZ : wc.cell? ⟨qbB, 3, none⟩ = some (.int .i64 a0_3) := (qaf qaM.out 3).trans rfl; have qs0 : wc.cell? ⟨qbB, 4, none⟩ = some (.int .i64 a0_4) := (qaf qaM.out 4).trans rfl; have qs1 := qaj qaM.out 0; have qs2 := qaj qaM.out 1; have qs3 := qaj qaM.out 2; have qs4 := qaj qaM.out 3; have qs5 := qaj qaM.out 4
        go_wp2_with (first | ((with_reducible refine qaz (f := 78) rfl ?_); refine qbd (some 57) rfl rfl Try.func78 (by kernel_rfl) rfl #[.agg #[.slice A0_0 l0_0.length c0_0, .slice A0_1 l0_1.length c0_1, .slice A0_2 l0_2.length c0_2, .int .i64 a0_3, .int .i64 a0_4]] rfl (by (try simp only [List.map_toArray, List.map_cons, List.map_nil]); first | done | rfl | (simp only [List.length_drop, List.length_take]; rfl)) ?_; (with_reducible refine (qci.calls _ _ l0_0 _ _ l0_1 _ _ l0_2 a0_3 a0_4 t162 t163 t164 t165 t166 t167 _ ?side1 ?side2 ?side3 ?side4 ?side5 ?side6 A33.out).mono ?_); (case side1 => repeat (first | exact (Kd.C_below qb9.out HB.out) | (with_reducible refine Kd.C_alloc ?_ _) | (with_reducible refine Kd.C_drewN ?_ _) | (with_reducible refine Kd.C_drew ?_))); (case side2 => exact qcx.out); (case side3 => repeat (first | exact (Kd.C_below qb2.out HB.out) | (with_reducible refine Kd.C_alloc ?_ _) | (with_reducible refine Kd.C_drewN ?_ _) | (with_reducible refine Kd.C_drew ?_))); (case side4 => exact qcj.out); (case side5 => repeat (first | exact (Kd.C_below qb8.out HB.out) | (with_reducible refine Kd.C_alloc ?_ _) | (with_reducible refine Kd.C_drewN ?_ _) | (with_reducible refine Kd.C_drew ?_))); (case side6 => exact qck.out); rintro e w36 ⟨rfl, hb⟩; refine ⟨_, rfl, ?_⟩; have n0_ := qaa.mk (qam (g := qcC) (o := .cells #[.slice A0_0 l0_0.length c0_0, .slice A0_1 l0_1.length c0_1, .slice A0_2 l0_2.length c0_2, .int .i64 a0_3, .int .i64 a0_4] 39 (0, 0)) (by (with_reducible repeat (first | refine qae ?_ _ | refine qai ?_ | refine qad ?_ _)); exact qbu.out) hb); have n1_ := qaa.mk (qam (g := qbB) (o := .cells #[.slice A0_0 l0_0.length c0_0, .slice A0_1 l0_1.length c0_1, .slice A0_2 l0_2.length c0_2, .int .i64 a0_3, .int .i64 a0_4] 111 (0, 0)) (by (with_reducible repeat (first | refine qae ?_ _ | refine qai ?_ | refine qad ?_ _)); exact qaM.out) hb); have n2_ := qaa.mk (qap (by repeat (first | (with_reducible first | exact HB.out | apply qac | apply qab | apply qag | refine qah ?_ qcD.out | refine qah ?_ qcO.out) | exact HB.out)) hb); clear qbu; clear qaM; clear HB; have qbu := n0_; have qaM := n1_; have HB := n2_; clear n0_ n1_ n2_; (try clear hb); (try clear hb2); (try clear hk); (try clear hi)) | ((with_reducible refine qaN (N := 12) rfl ?_); (try (refine qdG (by rfl) ?_; dsimp only)); refine qba ?hg (N := 12) ?hd (cs := #[.int .i64 0, .int .i64 0, .int .i64 0, .int .i64 0, .int .i64 0, .int .i64 0]) (t := 115) ?hr ?_; (case hd => rfl); (case hg => rfl); (case hr => first | (go_simp; done) | (go_simp; rfl)); intro qbb hg w37 hbox hb; have n0_ := qaa.mk (qam (g := qcC) (o := .cells #[.slice A0_0 l0_0.length c0_0, .slice A0_1 l0_1.length c0_1, .slice A0_2 l0_2.length c0_2, .int .i64 a0_3, .int .i64 a0_4] 39 (0, 0)) (by (with_reducible repeat (first | refine qae ?_ _ | refine qai ?_ | refine qad ?_ _)); exact qbu.out) hb); have n1_ := qaa.mk (qam (g := qbB) (o := .cells #[.slice A0_0 l0_0.length c0_0, .slice A0_1 l0_1.length c0_1, .slice A0_2 l0_2.length c0_2, .int .i64 a0_3, .int .i64 a0_4] 111 (0, 0)) (by (with_reducible repeat (first | refine qae ?_ _ | refine qai ?_ | refine qad ?_ _)); exact qaM.out) hb); have n2_ := qaa.mk (qap (by repeat (first | (with_reducible first | exact HB.out | apply qac | apply qab | apply qag | refine qah ?_ qcD.out | refine qah ?_ qcO.out) | exact HB.out)) hb); have n3_ := qaa.mk (hbox); have n4_ := qaa.mk ((by rw [hg]; exact (qal (by repeat (first | (with_reducible first | exact HB.out | apply qac | apply qab | apply qag | refine qah ?_ qcD.out | refine qah ?_ qcO.out) | exact HB.out))) : w.heap.size ≤ qbb)); have n5_ := qaa.mk ((by rw [hg]; exact (qal (by repeat (first | (with_reducible first | exact HB.out | apply qac | apply qab | apply qag | refine qah ?_ qcD.out | refine qah ?_ qcO.out) | exact HB.out))) : w.heap.size ≤ qbb)); have n6_ := qaa.mk ((by rw [hg]; exact Nat.ne_of_lt (qaL (g := qcC) (o := .cells #[.slice A0_0 l0_0.length c0_0, .slice A0_1 l0_1.length c0_1, .slice A0_2 l0_2.length c0_2, .int .i64 a0_3, .int .i64 a0_4] 39 (0, 0)) (by (with_reducible repeat (first | refine qae ?_ _ | refine qai ?_ | refine qad ?_ _)); exact qbu.out)) : qcC ≠ qbb)); have n7_ := qaa.mk ((by rw [hg]; exact Nat.ne_of_gt (qaL (g := qcC) (o := .cells #[.slice A0_0 l0_0.length c0_0, .slice A0_1 l0_1.length c0_1, .slice A0_2 l0_2.length c0_2, .int .i64 a0_3, .int .i64 a0_4] 39 (0, 0)) (by (with_reducible repeat (first | refine qae ?_ _ | refine qai ?_ | refine qad ?_ _)); exact qbu.out)) : qbb ≠ qcC)); have n8_ := qaa.mk ((by rw [hg]; exact Nat.ne_of_lt (qaL (g := qbB) (o := .cells #[.slice A0_0 l0_0.length c0_0, .slice A0_1 l0_1.length c0_1, .slice A0_2 l0_2.length c0_2, .int .i64 a0_3, .int .i64 a0_4] 111 (0, 0)) (by (with_reducible repeat (first | refine qae ?_ _ | refine qai ?_ | refine qad ?_ _)); exact qaM.out)) : qbB ≠ qbb)); have n9_ := qaa.mk ((by rw [hg]; exact Nat.ne_of_gt (qaL (g := qbB) (o := .cells #[.slice A0_0 l0_0.length c0_0, .slice A0_1 l0_1.length c0_1, .slice A0_2 l0_2.length c0_2, .int .i64 a0_3, .int .i64 a0_4] 111 (0, 0)) (by (with_reducible repeat (first | refine qae ?_ _ | refine qai ?_ | refine qad ?_ _)); exact qaM.out)) : qbb ≠ qbB)); clear qbu; clear qaM; clear HB; have qbu := n0_; have qaM := n1_; have HB := n2_; have qbi := n3_; have qC6 := n4_; have qfr := n5_; have qdf := n6_; have qgh := n7_; have qdg := n8_; have qgi := n9_; clear n0_ n1_ n2_ n3_ n4_ n5_ n6_ n7_ n8_ n9_; clear hb hbox hg; have qC7 := qgh.out; have qC8 := qdf.out; have qrk := qgi.out; have qrl := qdg.out; have qkk : w37.cell? ⟨qbb, 0, none⟩ = some (.int .i64 0) := (qaf qbi.out 0).trans rfl; have qkl : w37.cell? ⟨qbb, 1, none⟩ = some (.int .i64 0) := (qaf qbi.out 1).trans rfl; have qkm : w37.cell? ⟨qbb, 2, none⟩ = some (.int .i64 0) := (qaf qbi.out 2).trans rfl; have qs6 : w37.cell? ⟨qbb, 3, none⟩ = some (.int .i64 0) := (qaf qbi.out 3).trans rfl; have qs7 : w37.cell? ⟨qbb, 4, none⟩ = some (.int .i64 0) := (qaf qbi.out 4).trans rfl; have qs8 : w37.cell? ⟨qbb, 5, none⟩ = some (.int .i64 0) := (qaf qbi.out 5).trans rfl; have qkn := qaj qbi.out 0; have qko := qaj qbi.out 1; have qkp := qaj qbi.out 2; have qs9 := qaj qbi.out 3; have qta := qaj qbi.out 4; have qtb := qaj qbi.out 5))
        go_loopg [13, 60] kj22 (fun kq v13 v60 w' => ∃ (qdU : List Int) (qcR : Int) (qcJ : Int) (qcA : Int) (qcu : Int) (qcm : Int) (qcf : Int) (qcb : Int), v60 = .int .i64 qcR ∧ qaa (qaw.l1 kq l1 l2 qdU (l1.length : Int) qcR l0_0 l0_1 l0_2 a0_3 a0_4 qcJ qcA qcu qcm qcf qcb = some (r1, r2)) ∧ qaa (kq ≤ kj22) ∧ qaa (Kd.R (Kd.int .i64) 3 w' w.heap.size (fun k_ => (w.heap.size ≤ k_)) v13 qdU) ∧ qaa (w'.heap[qcC]? = some (.cells #[(.slice A0_0 l0_0.length c0_0), (.slice A0_1 l0_1.length c0_1), (.slice A0_2 l0_2.length c0_2), .int .i64 a0_3, .int .i64 a0_4] 39 (0, 0))) ∧ qaa (w'.heap[qbB]? = some (.cells #[(.slice A0_0 l0_0.length c0_0), (.slice A0_1 l0_1.length c0_1), (.slice A0_2 l0_2.length c0_2), .int .i64 a0_3, .int .i64 a0_4] 111 (0, 0))) ∧ qaa (w'.heap[qbb]? = some (.cells #[.int .i64 qcJ, .int .i64 qcA, .int .i64 qcu, .int .i64 qcm, .int .i64 qcf, .int .i64 qcb] 115 (0, 0))) ∧ qaa (Below w.heap.size w w'))
        case atStart => exact ⟨(([] : List Int)), (0), (t162), (t163), (t164), (t165), (t166), (t167), (by first | rfl | (simp; done) | (simp [*]; done)), H', ⟨Nat.le_refl _⟩, ⟨by first | exact Kd.R_nil _ _ _ _ _ | exact Kd.N_nil _ _ _ _ _ | exact Kd.V_nil _ _ _ _ _ | exact Kd.Q_nil _ _ _ _ _ | exact Kd.S_nil _ _ _ _ _⟩, ⟨by (with_reducible repeat (first | refine qae ?_ _ | refine qai ?_ | refine qad ?_ _)); refine qao ?_ qdf.out _; (with_reducible repeat (first | refine qae ?_ _ | refine qai ?_ | refine qad ?_ _)); refine qao ?_ qdf.out _; (with_reducible repeat (first | refine qae ?_ _ | refine qai ?_ | refine qad ?_ _)); refine qao ?_ qdf.out _; (with_reducible repeat (first | refine qae ?_ _ | refine qai ?_ | refine qad ?_ _)); refine qao ?_ qdf.out _; (with_reducible repeat (first | refine qae ?_ _ | refine qai ?_ | refine qad ?_ _)); refine qao ?_ qdf.out _; (with_reducible repeat (first | refine qae ?_ _ | refine qai ?_ | refine qad ?_ _)); refine qao ?_ qdf.out _; (with_reducible repeat (first | refine qae ?_ _ | refine qai ?_ | refine qad ?_ _)); exact qbu.out⟩, ⟨by (with_reducible repeat (first | refine qae ?_ _ | refine qai ?_ | refine qad ?_ _)); refine qao ?_ qdg.out _; (with_reducible repeat (first | refine qae ?_ _ | refine qai ?_ | refine qad ?_ _)); refine qao ?_ qdg.out _; (with_reducible repeat (first | refine qae ?_ _ | refine qai ?_ | refine qad ?_ _)); refine qao ?_ qdg.out _; (with_reducible repeat (first | refine qae ?_ _ | refine qai ?_ | refine qad ?_ _)); refine qao ?_ qdg.out _; (with_reducible repeat (first | refine qae ?_ _ | refine qai ?_ | refine qad ?_ _)); refine qao ?_ qdg.out _; (with_reducible repeat (first | refine qae ?_ _ | refine qai ?_ | refine qad ?_ _)); refine qao ?_ qdg.out _; (with_reducible repeat (first | refine qae ?_ _ | refine qai ?_ | refine qad ?_ _)); exact qaM.out⟩, ⟨by (with_reducible repeat (first | refine qae ?_ _ | refine qai ?_ | refine qad ?_ _)); refine qaE (cs := #[.int .i64 t162, .int .i64 t163, .int .i64 t164, .int .i64 t165, .int .i64 t166, .int .i64 0]) ?_ 5 _ rfl; (with_reducible repeat (first | refine qae ?_ _ | refine qai ?_ | refine qad ?_ _)); refine qaE (cs := #[.int .i64 t162, .int .i64 t163, .int .i64 t164, .int .i64 t165, .int .i64 0, .int .i64 0]) ?_ 4 _ rfl; (with_reducible repeat (first | refine qae ?_ _ | refine qai ?_ | refine qad ?_ _)); refine qaE (cs := #[.int .i64 t162, .int .i64 t163, .int .i64 t164, .int .i64 0, .int .i64 0, .int .i64 0]) ?_ 3 _ rfl; (with_reducible repeat (first | refine qae ?_ _ | refine qai ?_ | refine qad ?_ _)); refine qaE (cs := #[.int .i64 t162, .int .i64 t163, .int .i64 0, .int .i64 0, .int .i64 0, .int .i64 0]) ?_ 2 _ rfl; (with_reducible repeat (first | refine qae ?_ _ | refine qai ?_ | refine qad ?_ _)); refine qaE (cs := #[.int .i64 t162, .int .i64 0, .int .i64 0, .int .i64 0, .int .i64 0, .int .i64 0]) ?_ 1 _ rfl; (with_reducible repeat (first | refine qae ?_ _ | refine qai ?_ | refine qad ?_ _)); refine qaE (cs := #[.int .i64 0, .int .i64 0, .int .i64 0, .int .i64 0, .int .i64 0, .int .i64 0]) ?_ 0 _ rfl; (with_reducible repeat (first | refine qae ?_ _ | refine qai ?_ | refine qad ?_ _)); exact qbi.out⟩, ⟨by repeat (first | (with_reducible first | exact HB.out | apply qac | apply qab | apply qag | refine qah ?_ qcD.out | refine qah ?_ qcO.out | refine qah ?_ qfr.out) | exact HB.out)⟩⟩
        case round =>
         clear H'; (try clear c1); (try clear p1); (try clear q1); (try clear hx1); (try clear c2); (try clear p2); (try clear c3); (try clear c6); (try clear p6); (try clear c7); (try clear c8); (try clear c11); (try clear c13); (try clear c14); (try clear p15); (try clear q15); (try clear hx15); (try clear p16); (try clear q16); (try clear hx16); (try clear c17); (try clear c20); (try clear c24); (try clear c25); (try clear c26); (try clear c26b0); (try clear c27); (try clear c27b0); (try clear c29); (try clear c30); (try clear c30b0); (try clear c32); (try clear c34); (try clear c38); (try clear c39); (try clear qem); (try clear qen); (try clear qeP); (try clear qeQ); (try clear qeR); (try clear qgx); (try clear qgy); (try clear qgz); (try clear qjc); (try clear qjd); (try clear qfU); (try clear qfV); (try clear qfW); (try clear qjg); (try clear qjh); (try clear qsW); (try clear qsX); (try clear qsY); (try clear qsZ); (try clear qs0); (try clear qkk); (try clear qkl); (try clear qkm); (try clear qs6); (try clear qs7); (try clear qs8); (try clear qiG); (try clear qiH); (try clear qja); (try clear qlg); (try clear qlh); (try clear qe2); (try clear qe3); (try clear qe4); (try clear qlk); (try clear qll); (try clear qeo); (try clear qep); (try clear qeS); (try clear qeT); (try clear qeU); (try clear qgA); (try clear qgB); (try clear qgC); (try clear qje); (try clear qjf); (try clear qfX); (try clear qfY); (try clear qfZ); (try clear qji); (try clear qjj); (try clear qs1); (try clear qs2); (try clear qs3); (try clear qs4); (try clear qs5); (try clear qkn); (try clear qko); (try clear qkp); (try clear qs9); (try clear qta); (try clear qtb); (try clear qiI); (try clear qiJ); (try clear qjb); (try clear qli); (try clear qlj); (try clear qe5); (try clear qe6); (try clear qe7); (try clear qlm); (try clear qln); (try clear qg6); (try clear qkj); (try clear p158); (try clear p160); (try clear p2); (try clear q158); (try clear q160); obtain ⟨qdU, qcR, qcJ, qcA, qcu, qcm, qcf, qcb, rfl, HA, HK4, HO_13, qbu, qaM, qbi, HB⟩ := hrel
         cases gk with
         | zero => exact absurd HA.out (by simp [qaw.l1])
         | succ k4 =>
          have H := HA.out; clear HA; simp only [qaw.l1] at H
          by_cases c41 : qcR < (l1.length : Int)
          ·
           rw [if_pos c41] at H; have c41b0 : decide (qcR < (l1.length : Int)) = true := decide_eq_true c41; clear c41
           by_cases c42 : 0 ≤ qcR
           ·
            rw [if_pos c42] at H; have c42b0 : decide (0 ≤ qcR) = true := decide_eq_true c42; clear c42
            by_cases c43 : qcR < (l1.length : Int)
            ·
             rw [if_pos c43] at H; have c43b0 : decide (qcR < (l1.length : Int)) = true := decide_eq_true c43; clear c43
             by_cases c44 : qcR < (l2.length : Int)
             ·
              rw [if_pos c44] at H; have c44b0 : decide (qcR < (l2.length : Int)) = true := decide_eq_true c44; clear c44; replace H := Option.bind_eq_some_iff.mp H; obtain ⟨⟨t171, t172, t173, t174, t175, t176, t177⟩, A450, H⟩ := H; replace H : (if qdU.length < 17592186044416 then (qaw.l1 k4 l1 l2 (qdU ++ [t171]) (l1.length : Int) (wrap64 (qcR + 1)) l0_0 l0_1 l0_2 a0_3 a0_4 t172 t173 t174 t175 t176 t177) else (none)) = some (r1, r2) := H; have A45 := qaa.mk A450; clear A450
              by_cases c46 : qdU.length < 17592186044416
              ·
               rw [if_pos c46] at H; have qu0 := qaa.mk c46; clear c46; obtain ⟨y179, qlp⟩ : ∃ y_ : List Int, y_ = (qdU ++ [t171]) := ⟨_, rfl⟩
               replace H : (qaw.l1 k4 l1 l2 y179 (l1.length : Int) (wrap64 (qcR + 1)) l0_0 l0_1 l0_2 a0_3 a0_4 t172 t173 t174 t175 t176 t177) = some (r1, r2) := by first | (rw [qlp]; with_reducible exact H) | (have H2_ := (Option.bind_some _ _).symm.trans H; rw [qlp]; with_reducible exact H2_) | (have H2_ := (Option.bind_some _ _).symm.trans H; with_reducible exact H2_) | with_reducible exact H | (rw [qlp]; exact H) | exact H
               have qu1 := qaa.mk qlp; clear qlp; have H' := qaa.mk H; clear H
               try go_wp2
               have n0_ := qaa.mk (Kd.R_drew HO_13.out); have n1_ := qaa.mk (qai qbu.out); have n2_ := qaa.mk (qai qaM.out); have n3_ := qaa.mk (qai qbi.out); have n4_ := qaa.mk (qag HB.out); clear HO_13 qbu qaM qbi HB; have HO_13 := n0_; have qbu := n1_; have qaM := n2_; have qbi := n3_; have HB := n4_; clear n0_ n1_ n2_ n3_ n4_; have p169 : 0 ≤ (qcR : Int) := of_decide_eq_true (by first | (with_reducible assumption) | assumption); have q169 : qcR < (l1.length : Int) := of_decide_eq_true (by first | (with_reducible assumption) | assumption); obtain ⟨qpQ, e169, qjk⟩ := Kd.at_int HR1.out qcR p169 q169; have qcp := qjk; cases e169; replace qjk := (HB.out.cell (World.block_lt_of_cell? w _ qjk)).trans qjk; replace p169 := eq_true p169; replace q169 := eq_true q169; have p170 : 0 ≤ (qcR : Int) := of_decide_eq_true (by first | (with_reducible assumption) | assumption); have q170 : qcR < (l2.length : Int) := of_decide_eq_true (by first | (with_reducible assumption) | assumption); obtain ⟨qpR, e170, qjl⟩ := Kd.at_int HR2.out qcR p170 q170; have qcq := qjl; cases e170; replace qjl := (HB.out.cell (World.block_lt_of_cell? w _ qjl)).trans qjl; replace p170 := eq_true p170; replace q170 := eq_true q170; refine qhT (n := 18) (S := fun w' => w'.cell? ⟨qbB, 0, none⟩ = some (.slice A0_0 l0_0.length c0_0) ∧ w'.cell? ⟨qbB, 1, none⟩ = some (.slice A0_1 l0_1.length c0_1) ∧ w'.cell? ⟨qbB, 2, none⟩ = some (.slice A0_2 l0_2.length c0_2) ∧ w'.cell? ⟨qbB, 3, none⟩ = some (.int .i64 a0_3) ∧ w'.cell? ⟨qbB, 4, none⟩ = some (.int .i64 a0_4) ∧ w'.cell? ⟨qbb, 0, none⟩ = some (.int .i64 qcJ) ∧ w'.cell? ⟨qbb, 1, none⟩ = some (.int .i64 qcA) ∧ w'.cell? ⟨qbb, 2, none⟩ = some (.int .i64 qcu) ∧ w'.cell? ⟨qbb, 3, none⟩ = some (.int .i64 qcm) ∧ w'.cell? ⟨qbb, 4, none⟩ = some (.int .i64 qcf) ∧ w'.cell? ⟨qbb, 5, none⟩ = some (.int .i64 qcb) ∧ w'.cell? (qpQ.add (qcR).toNat) = some (.int .i64 (rd l1 qcR)) ∧ w'.cell? (qpR.add (qcR).toNat) = some (.int .i64 (rd l2 qcR))) (ds := []) #[false, false, false, false, false, false, false, false, false, false, false, false, false, false, false, false, false, false] (by kernel_rfl) rfl rfl ⟨(qaf qaM.out 0).trans rfl, (qaf qaM.out 1).trans rfl, (qaf qaM.out 2).trans rfl, (qaf qaM.out 3).trans rfl, (qaf qaM.out 4).trans rfl, (qaf qbi.out 0).trans rfl, (qaf qbi.out 1).trans rfl, (qaf qbi.out 2).trans rfl, (qaf qbi.out 3).trans rfl, (qaf qbi.out 4).trans rfl, (qaf qbi.out 5).trans rfl, ((HB.out.cell (World.block_lt_of_cell? w _ qcp)).trans qcp), ((HB.out.cell (World.block_lt_of_cell? w _ qcq)).trans qcq)⟩ (fun hHeld => ?_); refine qgf qaw.tab15 qaw.bits15 (fun HT_ HW_ => ?_)
               generalize wr.drew = w47 at HO_13 qbu qaM qbi HB qjk qjl hHeld ⊢
               refine qbI (i := 0) (N := some 64) (v := ?_) (a' := ?_) #[true, false, false, false, false, false, false, false, false, false, false, false, false, false, false, false, false, false] rfl rfl (qbr HT_.out (by kernel_rfl)) (fun _ _ _ h => h) (Or.inl ⟨by rfl, ?_⟩) ?_ ?_
               rotate_left
               ·
                intro w'
                go_simp
                with_reducible rfl
               rotate_left
               ·
                simp only [Act.put, List.setIfInBounds_toArray, List.set_cons_zero, List.set_cons_succ, qaQ, qaU]
                rfl
               refine qbI (i := 3) (N := some 67) (v := ?_) (a' := ?_) #[true, false, false, true, false, false, false, false, false, false, false, false, false, false, false, false, false, false] rfl rfl (qbr HT_.out (by kernel_rfl)) (fun _ _ _ h => h) (Or.inl ⟨by rfl, ?_⟩) ?_ ?_
               rotate_left
               ·
                intro w'
                go_simp
                with_reducible rfl
               rotate_left
               ·
                simp only [Act.put, List.setIfInBounds_toArray, List.set_cons_zero, List.set_cons_succ, qaQ, qaU]
                rfl
               refine qbI (i := 4) (N := some 68) (v := ?_) (a' := ?_) #[true, false, false, true, true, false, false, false, false, false, false, false, false, false, false, false, false, false] rfl rfl (qbr HT_.out (by kernel_rfl)) (fun _ _ _ h => h) (Or.inl ⟨by rfl, ?_⟩) ?_ ?_
               rotate_left
               ·
                intro w'
                go_simp
                with_reducible rfl
               rotate_left
               ·
                simp only [Act.put, List.setIfInBounds_toArray, List.set_cons_zero, List.set_cons_succ, qaQ, qaU]
                rfl
               refine qbI (i := 5) (N := some 69) (v := ?_) (a' := ?_) #[true, false, false, true, true, true, false, false, false, false, false, false, false, false, false, false, false, false] rfl rfl (qbr HT_.out (by kernel_rfl)) (fun _ _ _ h => h) (Or.inl ⟨by rfl, ?_⟩) ?_ ?_
               rotate_left
               ·
                intro w'
                go_simp
                with_reducible rfl
               rotate_left
               ·
                simp only [Act.put, List.setIfInBounds_toArray, List.set_cons_zero, List.set_cons_succ, qaQ, qaU]
                rfl
               refine qbI (i := 7) (N := some 71) (v := ?_) (a' := ?_) #[true, false, false, true, true, true, false, true, false, false, false, false, false, false, false, false, false, false] rfl rfl (qbr HT_.out (by kernel_rfl)) (fun _ _ _ h => h) (Or.inl ⟨by rfl, ?_⟩) ?_ ?_
               rotate_left
               ·
                intro w'
                go_simp
                with_reducible rfl
               rotate_left
               ·
                simp only [Act.put, List.setIfInBounds_toArray, List.set_cons_zero, List.set_cons_succ, qaQ, qaU]
                rfl
               refine qbI (i := 8) (N := some 72) (v := ?_) (a' := ?_) #[true, false, false, true, true, true, false, true, true, false, false, false, false, false, false, false, false, false] rfl rfl (qbr HT_.out (by kernel_rfl)) (fun _ _ _ h => h) (Or.inl ⟨by rfl, ?_⟩) ?_ ?_
               rotate_left
               ·
                intro w'
                go_simp
                with_reducible rfl
               rotate_left
               ·
                simp only [Act.put, List.setIfInBounds_toArray, List.set_cons_zero, List.set_cons_succ, qaQ, qaU]
                rfl
               refine qbI (i := 9) (N := some 73) (v := ?_) (a' := ?_) #[true, false, false, true, true, true, false, true, true, true, false, false, false, false, false, false, false, false] rfl rfl (qbr HT_.out (by kernel_rfl)) (fun _ _ _ h => h) (Or.inl ⟨by rfl, ?_⟩) ?_ ?_
               rotate_left
               ·
                intro w'
                go_simp
                with_reducible rfl
               rotate_left
               ·
                simp only [Act.put, List.setIfInBounds_toArray, List.set_cons_zero, List.set_cons_succ, qaQ, qaU]
                rfl
               refine take_ (i := 1) (N := some 65) (v := ?_) (a' := ?_) #[true, true, false, true, true, true, false, true, true, true, false, false, false, false, false, false, false, false] rfl rfl (qdd HT_.out HW_.out (by kernel_rfl)) (fun _ _ _ h => h) (Or.inl ⟨by rfl, ?_⟩) hHeld ?_ ?_
               rotate_left
               ·
                rintro w' ⟨s0, s1, s2, s3, s4, s5, s6, s7, s8, s9, s10, s11, s12⟩
                go_simp
                with_reducible rfl
               rotate_left
               ·
                simp only [Act.put, List.setIfInBounds_toArray, List.set_cons_zero, List.set_cons_succ, qaQ, qaU]
                rfl
               refine take_ (i := 2) (N := some 66) (v := ?_) (a' := ?_) #[true, true, true, true, true, true, false, true, true, true, false, false, false, false, false, false, false, false] rfl rfl (qdd HT_.out HW_.out (by kernel_rfl)) (fun _ _ _ h => h) (Or.inl ⟨by rfl, ?_⟩) hHeld ?_ ?_
               rotate_left
               ·
                rintro w' ⟨s0, s1, s2, s3, s4, s5, s6, s7, s8, s9, s10, s11, s12⟩
                go_simp
                with_reducible rfl
               rotate_left
               ·
                simp only [Act.put, List.setIfInBounds_toArray, List.set_cons_zero, List.set_cons_succ, qaQ, qaU]
                rfl
               refine take_ (i := 6) (N := some 70) (v := ?_) (a' := ?_) #[true, true, true, true, true, true, true, true, true, true, false, false, false, false, false, false, false, false] rfl rfl (qdd HT_.out HW_.out (by kernel_rfl)) (fun _ _ _ h => h) (Or.inl ⟨by rfl, ?_⟩) hHeld ?_ ?_
               rotate_left
               ·
                rintro w' ⟨s0, s1, s2, s3, s4, s5, s6, s7, s8, s9, s10, s11, s12⟩
                go_simp
                with_reducible rfl
               rotate_left
               ·
                simp only [Act.put, List.setIfInBounds_toArray, List.set_cons_zero, List.set_cons_succ, qaQ, qaU]
                rfl
               refine take_ (i := 10) (N := some 74) (v := ?_) (a' := ?_) #[true, true, true, true, true, true, true, true, true, true, true, false, false, false, false, false, false, false] rfl rfl (qdd HT_.out HW_.out (by kernel_rfl)) (fun _ _ _ h => h) (Or.inl ⟨by rfl, ?_⟩) hHeld ?_ ?_
               rotate_left
               ·
                rintro w' ⟨s0, s1, s2, s3, s4, s5, s6, s7, s8, s9, s10, s11, s12⟩
                go_simp
                with_reducible rfl
               rotate_left
               ·
                simp only [Act.put, List.setIfInBounds_toArray, List.set_cons_zero, List.set_cons_succ, qaQ, qaU]
                rfl
               refine qrf (σ := Nat) 2 #[true, true, true, true, true, true, true, true, true, true, true, true, true, true, true, true, false, false] (fun s_ => [(75, .tuple #[.int .i64 t171, .agg #[.int .i64 t172, .int .i64 t173, .int .i64 t174, .int .i64 t175, .int .i64 t176, .int .i64 t177]]), (16, .pointer (some ⟨s_, 0, none⟩)), (63, .tuple #[.int .i64 t171, .agg #[.int .i64 t172, .int .i64 t173, .int .i64 t174, .int .i64 t175, .int .i64 t176, .int .i64 t177]]), (76, .int .i64 t171), (77, .agg #[.int .i64 t172, .int .i64 t173, .int .i64 t174, .int .i64 t175, .int .i64 t176, .int .i64 t177])]) (fun s_ w' => (w'.cell? ⟨qbB, 0, none⟩ = some (.slice A0_0 l0_0.length c0_0) ∧ w'.cell? ⟨qbB, 1, none⟩ = some (.slice A0_1 l0_1.length c0_1) ∧ w'.cell? ⟨qbB, 2, none⟩ = some (.slice A0_2 l0_2.length c0_2) ∧ w'.cell? ⟨qbB, 3, none⟩ = some (.int .i64 a0_3) ∧ w'.cell? ⟨qbB, 4, none⟩ = some (.int .i64 a0_4) ∧ w'.cell? ⟨qbb, 0, none⟩ = some (.int .i64 qcJ) ∧ w'.cell? ⟨qbb, 1, none⟩ = some (.int .i64 qcA) ∧ w'.cell? ⟨qbb, 2, none⟩ = some (.int .i64 qcu) ∧ w'.cell? ⟨qbb, 3, none⟩ = some (.int .i64 qcm) ∧ w'.cell? ⟨qbb, 4, none⟩ = some (.int .i64 qcf) ∧ w'.cell? ⟨qbb, 5, none⟩ = some (.int .i64 qcb) ∧ w'.cell? (qpQ.add (qcR).toNat) = some (.int .i64 (rd l1 qcR)) ∧ w'.cell? (qpR.add (qcR).toNat) = some (.int .i64 (rd l2 qcR))) ∧ (Kd.R (Kd.int .i64) 3 w' w.heap.size (fun k_ => (w.heap.size ≤ k_)) u13 qdU) ∧ (w'.heap[qcC]? = some (.cells #[.slice A0_0 l0_0.length c0_0, .slice A0_1 l0_1.length c0_1, .slice A0_2 l0_2.length c0_2, .int .i64 a0_3, .int .i64 a0_4] 39 (0, 0))) ∧ (w'.heap[qbB]? = some (.cells #[.slice A0_0 l0_0.length c0_0, .slice A0_1 l0_1.length c0_1, .slice A0_2 l0_2.length c0_2, .int .i64 a0_3, .int .i64 a0_4] 111 (0, 0))) ∧ (w'.heap[qbb]? = some (.cells #[.int .i64 qcJ, .int .i64 qcA, .int .i64 qcu, .int .i64 qcm, .int .i64 qcf, .int .i64 qcb] 115 (0, 0))) ∧ (w'.heap[s_]? = some (.cells #[.int .i64 0, .int .i64 0, .int .i64 0, .int .i64 0, .int .i64 0, .int .i64 0] 115 (0, 0))) ∧ (w.heap.size ≤ s_) ∧ (w.heap.size ≤ s_) ∧ (qcC ≠ s_) ∧ (s_ ≠ qcC) ∧ (qbB ≠ s_) ∧ (s_ ≠ qbB) ∧ (qbb ≠ s_) ∧ (s_ ≠ qbb) ∧ (Below w.heap.size w w')) ?_ ?_
               rotate_left
               ·
                intro hCont; refine two_ (i := 11) (j := 15) (Ni := some 75) (Nj := some 16) #[true, true, true, true, true, true, true, true, true, true, true, true, false, false, false, false, false, false] #[true, true, true, true, true, true, true, true, true, true, true, false, false, false, false, true, false, false] rfl rfl rfl rfl (qqf HT_.out (by kernel_rfl)) (by decide) (by decide) (fun K hK => ?_) (fun K hK => ?_)
                ·
                 skip
                 refine qk3 Try.func77 (by kernel_rfl) rfl #[.agg #[.slice A0_0 l0_0.length c0_0, .slice A0_1 l0_1.length c0_1, .slice A0_2 l0_2.length c0_2, .int .i64 a0_3, .int .i64 a0_4], .agg #[.int .i64 qcJ, .int .i64 qcA, .int .i64 qcu, .int .i64 qcm, .int .i64 qcf, .int .i64 qcb], .int .i64 (rd l1 qcR), .int .i64 (rd l2 qcR)] 64 (by rfl) rfl rfl rfl (by (try simp only [List.map_toArray, List.map_cons, List.map_nil]); first | done | rfl | (simp only [List.length_drop, List.length_take]; rfl)) ?_
                 with_reducible refine (qcG.calls _ _ l0_0 _ _ l0_1 _ _ l0_2 a0_3 a0_4 qcJ qcA qcu qcm qcf qcb (rd l1 qcR) (rd l2 qcR) t171 t172 t173 t174 t175 t176 t177 _ ?side1 ?side2 ?side3 ?side4 ?side5 ?side6 A45.out).mono ?_
                 (case side1 => repeat (first | exact (Kd.C_below qb9.out HB.out) | (with_reducible refine Kd.C_alloc ?_ _) | (with_reducible refine Kd.C_drewN ?_ _) | (with_reducible refine Kd.C_drew ?_)))
                 (case side2 => exact qcx.out)
                 (case side3 => repeat (first | exact (Kd.C_below qb2.out HB.out) | (with_reducible refine Kd.C_alloc ?_ _) | (with_reducible refine Kd.C_drewN ?_ _) | (with_reducible refine Kd.C_drew ?_)))
                 (case side4 => exact qcj.out)
                 (case side5 => repeat (first | exact (Kd.C_below qb8.out HB.out) | (with_reducible refine Kd.C_alloc ?_ _) | (with_reducible refine Kd.C_drewN ?_ _) | (with_reducible refine Kd.C_drew ?_)))
                 (case side6 => exact qck.out)
                 rintro e w48 ⟨rfl, hb⟩; refine ⟨_, rfl, ?_⟩; have n0_ := qaa.mk (Kd.R_below (by (with_reducible repeat (first | apply Kd.R_alloc | apply Kd.R_drewN | apply Kd.R_drew)); exact HO_13.out) hb); have n1_ := qaa.mk (qam (g := qcC) (o := .cells #[.slice A0_0 l0_0.length c0_0, .slice A0_1 l0_1.length c0_1, .slice A0_2 l0_2.length c0_2, .int .i64 a0_3, .int .i64 a0_4] 39 (0, 0)) (by (with_reducible repeat (first | refine qae ?_ _ | refine qai ?_ | refine qad ?_ _)); exact qbu.out) hb); have n2_ := qaa.mk (qam (g := qbB) (o := .cells #[.slice A0_0 l0_0.length c0_0, .slice A0_1 l0_1.length c0_1, .slice A0_2 l0_2.length c0_2, .int .i64 a0_3, .int .i64 a0_4] 111 (0, 0)) (by (with_reducible repeat (first | refine qae ?_ _ | refine qai ?_ | refine qad ?_ _)); exact qaM.out) hb); have n3_ := qaa.mk (qam (g := qbb) (o := .cells #[.int .i64 qcJ, .int .i64 qcA, .int .i64 qcu, .int .i64 qcm, .int .i64 qcf, .int .i64 qcb] 115 (0, 0)) (by (with_reducible repeat (first | refine qae ?_ _ | refine qai ?_ | refine qad ?_ _)); exact qbi.out) hb); have n4_ := qaa.mk (qap (by repeat (first | (with_reducible first | exact HB.out | apply qac | apply qab | apply qag | refine qah ?_ qcD.out | refine qah ?_ qcO.out | refine qah ?_ qfr.out) | exact HB.out)) hb); clear HO_13 qbu qaM qbi HB; have HO_13 := n0_; have qbu := n1_; have qaM := n2_; have qbi := n3_; have HB := n4_; clear n0_ n1_ n2_ n3_ n4_
                 (try clear hb)
                 (try clear hb2)
                 (try clear hk)
                 (try clear hi)
                 refine hK.out _ _ ⟨(qaf qaM.out 0).trans rfl, (qaf qaM.out 1).trans rfl, (qaf qaM.out 2).trans rfl, (qaf qaM.out 3).trans rfl, (qaf qaM.out 4).trans rfl, (qaf qbi.out 0).trans rfl, (qaf qbi.out 1).trans rfl, (qaf qbi.out 2).trans rfl, (qaf qbi.out 3).trans rfl, (qaf qbi.out 4).trans rfl, (qaf qbi.out 5).trans rfl, ((HB.out.cell (World.block_lt_of_cell? w _ qcp)).trans qcp), ((HB.out.cell (World.block_lt_of_cell? w _ qcq)).trans qcq)⟩ (fun hHeld => ?_); clear hK K; refine qdZ (a' := ?_) ?_ ?_
                 rotate_left
                 ·
                  show Act.put _ (some 75) _ = _
                  simp only [Act.put, List.setIfInBounds_toArray, List.set_cons_zero, List.set_cons_succ, qaQ, qaU]
                  rfl
                 refine qbI (i := 12) (N := some 63) (v := ?_) (a' := ?_) #[true, true, true, true, true, true, true, true, true, true, true, true, true, false, false, false, false, false] rfl rfl (qbr HT_.out (by kernel_rfl)) (fun _ _ _ h => h) (Or.inl ⟨by rfl, ?_⟩) ?_ ?_
                 rotate_left
                 ·
                  intro w'
                  go_simp
                  with_reducible rfl
                 rotate_left
                 ·
                  simp only [Act.put, List.setIfInBounds_toArray, List.set_cons_zero, List.set_cons_succ, qaQ, qaU]
                  rfl
                 refine qbI (i := 13) (N := some 76) (v := ?_) (a' := ?_) #[true, true, true, true, true, true, true, true, true, true, true, true, true, true, false, false, false, false] rfl rfl (qbr HT_.out (by kernel_rfl)) (fun _ _ _ h => h) (Or.inl ⟨by rfl, ?_⟩) ?_ ?_
                 rotate_left
                 ·
                  intro w'
                  go_simp
                  with_reducible rfl
                 rotate_left
                 ·
                  simp only [Act.put, List.setIfInBounds_toArray, List.set_cons_zero, List.set_cons_succ, qaQ, qaU]
                  rfl
                 refine qbI (i := 14) (N := some 77) (v := ?_) (a' := ?_) #[true, true, true, true, true, true, true, true, true, true, true, true, true, true, true, false, false, false] rfl rfl (qbr HT_.out (by kernel_rfl)) (fun _ _ _ h => h) (Or.inl ⟨by rfl, ?_⟩) ?_ ?_
                 rotate_left
                 ·
                  intro w'
                  go_simp
                  with_reducible rfl
                 rotate_left
                 ·
                  simp only [Act.put, List.setIfInBounds_toArray, List.set_cons_zero, List.set_cons_succ, qaQ, qaU]
                  rfl
                 refine one_ (i := 15) (N := some 16) #[true, true, true, true, true, true, true, true, true, true, true, true, true, true, true, true, false, false] rfl rfl (qe1 HT_.out (by kernel_rfl)) (by decide) (fun K hK => ?_); refine qjQ ?hg (N := 16) ?hd (cs := #[.int .i64 0, .int .i64 0, .int .i64 0, .int .i64 0, .int .i64 0, .int .i64 0]) (t := 115) ?hr ?_; (case hd => rfl); (case hg => rfl); (case hr => first | (go_simp; done) | (go_simp; rfl)); intro qaD hg w49 hbox hb; have n0_ := qaa.mk (Kd.R_below (by (with_reducible repeat (first | apply Kd.R_alloc | apply Kd.R_drewN | apply Kd.R_drew)); exact HO_13.out) hb); have n1_ := qaa.mk (qam (g := qcC) (o := .cells #[.slice A0_0 l0_0.length c0_0, .slice A0_1 l0_1.length c0_1, .slice A0_2 l0_2.length c0_2, .int .i64 a0_3, .int .i64 a0_4] 39 (0, 0)) (by (with_reducible repeat (first | refine qae ?_ _ | refine qai ?_ | refine qad ?_ _)); exact qbu.out) hb); have n2_ := qaa.mk (qam (g := qbB) (o := .cells #[.slice A0_0 l0_0.length c0_0, .slice A0_1 l0_1.length c0_1, .slice A0_2 l0_2.length c0_2, .int .i64 a0_3, .int .i64 a0_4] 111 (0, 0)) (by (with_reducible repeat (first | refine qae ?_ _ | refine qai ?_ | refine qad ?_ _)); exact qaM.out) hb); have n3_ := qaa.mk (qam (g := qbb) (o := .cells #[.int .i64 qcJ, .int .i64 qcA, .int .i64 qcu, .int .i64 qcm, .int .i64 qcf, .int .i64 qcb] 115 (0, 0)) (by (with_reducible repeat (first | refine qae ?_ _ | refine qai ?_ | refine qad ?_ _)); exact qbi.out) hb); have n4_ := qaa.mk (qap (by repeat (first | (with_reducible first | exact HB.out | apply qac | apply qab | apply qag | refine qah ?_ qcD.out | refine qah ?_ qcO.out | refine qah ?_ qfr.out) | exact HB.out)) hb); have n5_ := qaa.mk (hbox); have n6_ := qaa.mk ((by rw [hg]; exact (qal (by repeat (first | (with_reducible first | exact HB.out | apply qac | apply qab | apply qag | refine qah ?_ qcD.out | refine qah ?_ qcO.out | refine qah ?_ qfr.out) | exact HB.out))) : w.heap.size ≤ qaD)); have n7_ := qaa.mk ((by rw [hg]; exact (qal (by repeat (first | (with_reducible first | exact HB.out | apply qac | apply qab | apply qag | refine qah ?_ qcD.out | refine qah ?_ qcO.out | refine qah ?_ qfr.out) | exact HB.out))) : w.heap.size ≤ qaD)); have n8_ := qaa.mk ((by rw [hg]; exact Nat.ne_of_lt (qaL (g := qcC) (o := .cells #[.slice A0_0 l0_0.length c0_0, .slice A0_1 l0_1.length c0_1, .slice A0_2 l0_2.length c0_2, .int .i64 a0_3, .int .i64 a0_4] 39 (0, 0)) (by (with_reducible repeat (first | refine qae ?_ _ | refine qai ?_ | refine qad ?_ _)); exact qbu.out)) : qcC ≠ qaD)); have n9_ := qaa.mk ((by rw [hg]; exact Nat.ne_of_gt (qaL (g := qcC) (o := .cells #[.slice A0_0 l0_0.length c0_0, .slice A0_1 l0_1.length c0_1, .slice A0_2 l0_2.length c0_2, .int .i64 a0_3, .int .i64 a0_4] 39 (0, 0)) (by (with_reducible repeat (first | refine qae ?_ _ | refine qai ?_ | refine qad ?_ _)); exact qbu.out)) : qaD ≠ qcC)); have n10_ := qaa.mk ((by rw [hg]; exact Nat.ne_of_lt (qaL (g := qbB) (o := .cells #[.slice A0_0 l0_0.length c0_0, .slice A0_1 l0_1.length c0_1, .slice A0_2 l0_2.length c0_2, .int .i64 a0_3, .int .i64 a0_4] 111 (0, 0)) (by (with_reducible repeat (first | refine qae ?_ _ | refine qai ?_ | refine qad ?_ _)); exact qaM.out)) : qbB ≠ qaD)); have n11_ := qaa.mk ((by rw [hg]; exact Nat.ne_of_gt (qaL (g := qbB) (o := .cells #[.slice A0_0 l0_0.length c0_0, .slice A0_1 l0_1.length c0_1, .slice A0_2 l0_2.length c0_2, .int .i64 a0_3, .int .i64 a0_4] 111 (0, 0)) (by (with_reducible repeat (first | refine qae ?_ _ | refine qai ?_ | refine qad ?_ _)); exact qaM.out)) : qaD ≠ qbB)); have n12_ := qaa.mk ((by rw [hg]; exact Nat.ne_of_lt (qaL (g := qbb) (o := .cells #[.int .i64 qcJ, .int .i64 qcA, .int .i64 qcu, .int .i64 qcm, .int .i64 qcf, .int .i64 qcb] 115 (0, 0)) (by (with_reducible repeat (first | refine qae ?_ _ | refine qai ?_ | refine qad ?_ _)); exact qbi.out)) : qbb ≠ qaD)); have n13_ := qaa.mk ((by rw [hg]; exact Nat.ne_of_gt (qaL (g := qbb) (o := .cells #[.int .i64 qcJ, .int .i64 qcA, .int .i64 qcu, .int .i64 qcm, .int .i64 qcf, .int .i64 qcb] 115 (0, 0)) (by (with_reducible repeat (first | refine qae ?_ _ | refine qai ?_ | refine qad ?_ _)); exact qbi.out)) : qaD ≠ qbb)); clear HO_13 qbu qaM qbi HB; have HO_13 := n0_; have qbu := n1_; have qaM := n2_; have qbi := n3_; have HB := n4_; have qcn := n5_; have qcc := n6_; have qgL := n7_; have qdx := n8_; have qez := n9_; have qbq := n10_; have qeA := n11_; have qa6 := n12_; have qbe := n13_; clear n0_ n1_ n2_ n3_ n4_ n5_ n6_ n7_ n8_ n9_ n10_ n11_ n12_ n13_ hb hbox hg; refine hK.out _ _ ⟨(qaf qaM.out 0).trans rfl, (qaf qaM.out 1).trans rfl, (qaf qaM.out 2).trans rfl, (qaf qaM.out 3).trans rfl, (qaf qaM.out 4).trans rfl, (qaf qbi.out 0).trans rfl, (qaf qbi.out 1).trans rfl, (qaf qbi.out 2).trans rfl, (qaf qbi.out 3).trans rfl, (qaf qbi.out 4).trans rfl, (qaf qbi.out 5).trans rfl, ((HB.out.cell (World.block_lt_of_cell? w _ qcp)).trans qcp), ((HB.out.cell (World.block_lt_of_cell? w _ qcq)).trans qcq)⟩ (fun hHeld => ?_); clear hK K; refine qdZ (a' := ?_) ?_ ?_
                 rotate_left
                 ·
                  show Act.put _ (some 16) _ = _
                  simp only [Act.put, List.setIfInBounds_toArray, List.set_cons_zero, List.set_cons_succ, qaQ, qaU]
                  rfl
                 exact qdZ (by simp only [qhd, Act.put, List.setIfInBounds_toArray, List.set_cons_zero, List.set_cons_succ]) (hCont (qaD) _ ⟨hHeld, (by (with_reducible repeat (first | apply Kd.R_alloc | apply Kd.R_drewN | apply Kd.R_drew)); exact HO_13.out), (by (with_reducible repeat (first | refine qae ?_ _ | refine qai ?_ | refine qad ?_ _)); exact qbu.out), (by (with_reducible repeat (first | refine qae ?_ _ | refine qai ?_ | refine qad ?_ _)); exact qaM.out), (by (with_reducible repeat (first | refine qae ?_ _ | refine qai ?_ | refine qad ?_ _)); exact qbi.out), (by (with_reducible repeat (first | refine qae ?_ _ | refine qai ?_ | refine qad ?_ _)); exact qcn.out), qcc.out, qgL.out, qdx.out, qez.out, qbq.out, qeA.out, qa6.out, qbe.out, (by repeat (first | (with_reducible first | exact HB.out | apply qac | apply qab | apply qag | refine qah ?_ qcD.out | refine qah ?_ qcO.out | refine qah ?_ qfr.out | refine qah ?_ qgL.out) | exact HB.out))⟩)
                skip
                refine qjQ ?hg (N := 16) ?hd (cs := #[.int .i64 0, .int .i64 0, .int .i64 0, .int .i64 0, .int .i64 0, .int .i64 0]) (t := 115) ?hr ?_; (case hd => rfl); (case hg => rfl); (case hr => first | (go_simp; done) | (go_simp; rfl)); intro qaD hg w48 hbox hb; have n0_ := qaa.mk (Kd.R_below (by (with_reducible repeat (first | apply Kd.R_alloc | apply Kd.R_drewN | apply Kd.R_drew)); exact HO_13.out) hb); have n1_ := qaa.mk (qam (g := qcC) (o := .cells #[.slice A0_0 l0_0.length c0_0, .slice A0_1 l0_1.length c0_1, .slice A0_2 l0_2.length c0_2, .int .i64 a0_3, .int .i64 a0_4] 39 (0, 0)) (by (with_reducible repeat (first | refine qae ?_ _ | refine qai ?_ | refine qad ?_ _)); exact qbu.out) hb); have n2_ := qaa.mk (qam (g := qbB) (o := .cells #[.slice A0_0 l0_0.length c0_0, .slice A0_1 l0_1.length c0_1, .slice A0_2 l0_2.length c0_2, .int .i64 a0_3, .int .i64 a0_4] 111 (0, 0)) (by (with_reducible repeat (first | refine qae ?_ _ | refine qai ?_ | refine qad ?_ _)); exact qaM.out) hb); have n3_ := qaa.mk (qam (g := qbb) (o := .cells #[.int .i64 qcJ, .int .i64 qcA, .int .i64 qcu, .int .i64 qcm, .int .i64 qcf, .int .i64 qcb] 115 (0, 0)) (by (with_reducible repeat (first | refine qae ?_ _ | refine qai ?_ | refine qad ?_ _)); exact qbi.out) hb); have n4_ := qaa.mk (qap (by repeat (first | (with_reducible first | exact HB.out | apply qac | apply qab | apply qag | refine qah ?_ qcD.out | refine qah ?_ qcO.out | refine qah ?_ qfr.out) | exact HB.out)) hb); have n5_ := qaa.mk (hbox); have n6_ := qaa.mk ((by rw [hg]; exact (qal (by repeat (first | (with_reducible first | exact HB.out | apply qac | apply qab | apply qag | refine qah ?_ qcD.out | refine qah ?_ qcO.out | refine qah ?_ qfr.out) | exact HB.out))) : w.heap.size ≤ qaD)); have n7_ := qaa.mk ((by rw [hg]; exact (qal (by repeat (first | (with_reducible first | exact HB.out | apply qac | apply qab | apply qag | refine qah ?_ qcD.out | refine qah ?_ qcO.out | refine qah ?_ qfr.out) | exact HB.out))) : w.heap.size ≤ qaD)); have n8_ := qaa.mk ((by rw [hg]; exact Nat.ne_of_lt (qaL (g := qcC) (o := .cells #[.slice A0_0 l0_0.length c0_0, .slice A0_1 l0_1.length c0_1, .slice A0_2 l0_2.length c0_2, .int .i64 a0_3, .int .i64 a0_4] 39 (0, 0)) (by (with_reducible repeat (first | refine qae ?_ _ | refine qai ?_ | refine qad ?_ _)); exact qbu.out)) : qcC ≠ qaD)); have n9_ := qaa.mk ((by rw [hg]; exact Nat.ne_of_gt (qaL (g := qcC) (o := .cells #[.slice A0_0 l0_0.length c0_0, .slice A0_1 l0_1.length c0_1, .slice A0_2 l0_2.length c0_2, .int .i64 a0_3, .int .i64 a0_4] 39 (0, 0)) (by (with_reducible repeat (first | refine qae ?_ _ | refine qai ?_ | refine qad ?_ _)); exact qbu.out)) : qaD ≠ qcC)); have n10_ := qaa.mk ((by rw [hg]; exact Nat.ne_of_lt (qaL (g := qbB) (o := .cells #[.slice A0_0 l0_0.length c0_0, .slice A0_1 l0_1.length c0_1, .slice A0_2 l0_2.length c0_2, .int .i64 a0_3, .int .i64 a0_4] 111 (0, 0)) (by (with_reducible repeat (first | refine qae ?_ _ | refine qai ?_ | refine qad ?_ _)); exact qaM.out)) : qbB ≠ qaD)); have n11_ := qaa.mk ((by rw [hg]; exact Nat.ne_of_gt (qaL (g := qbB) (o := .cells #[.slice A0_0 l0_0.length c0_0, .slice A0_1 l0_1.length c0_1, .slice A0_2 l0_2.length c0_2, .int .i64 a0_3, .int .i64 a0_4] 111 (0, 0)) (by (with_reducible repeat (first | refine qae ?_ _ | refine qai ?_ | refine qad ?_ _)); exact qaM.out)) : qaD ≠ qbB)); have n12_ := qaa.mk ((by rw [hg]; exact Nat.ne_of_lt (qaL (g := qbb) (o := .cells #[.int .i64 qcJ, .int .i64 qcA, .int .i64 qcu, .int .i64 qcm, .int .i64 qcf, .int .i64 qcb] 115 (0, 0)) (by (with_reducible repeat (first | refine qae ?_ _ | refine qai ?_ | refine qad ?_ _)); exact qbi.out)) : qbb ≠ qaD)); have n13_ := qaa.mk ((by rw [hg]; exact Nat.ne_of_gt (qaL (g := qbb) (o := .cells #[.int .i64 qcJ, .int .i64 qcA, .int .i64 qcu, .int .i64 qcm, .int .i64 qcf, .int .i64 qcb] 115 (0, 0)) (by (with_reducible repeat (first | refine qae ?_ _ | refine qai ?_ | refine qad ?_ _)); exact qbi.out)) : qaD ≠ qbb)); clear HO_13 qbu qaM qbi HB; have HO_13 := n0_; have qbu := n1_; have qaM := n2_; have qbi := n3_; have HB := n4_; have qcn := n5_; have qcc := n6_; have qgL := n7_; have qdx := n8_; have qez := n9_; have qbq := n10_; have qeA := n11_; have qa6 := n12_; have qbe := n13_; clear n0_ n1_ n2_ n3_ n4_ n5_ n6_ n7_ n8_ n9_ n10_ n11_ n12_ n13_ hb hbox hg; refine hK.out _ _ ⟨(qaf qaM.out 0).trans rfl, (qaf qaM.out 1).trans rfl, (qaf qaM.out 2).trans rfl, (qaf qaM.out 3).trans rfl, (qaf qaM.out 4).trans rfl, (qaf qbi.out 0).trans rfl, (qaf qbi.out 1).trans rfl, (qaf qbi.out 2).trans rfl, (qaf qbi.out 3).trans rfl, (qaf qbi.out 4).trans rfl, (qaf qbi.out 5).trans rfl, ((HB.out.cell (World.block_lt_of_cell? w _ qcp)).trans qcp), ((HB.out.cell (World.block_lt_of_cell? w _ qcq)).trans qcq)⟩ (fun hHeld => ?_); clear hK K; refine qdZ (a' := ?_) ?_ ?_
                rotate_left
                ·
                 show Act.put _ (some 16) _ = _
                 simp only [Act.put, List.setIfInBounds_toArray, List.set_cons_zero, List.set_cons_succ, qaQ, qaU]
                 rfl
                refine one_ (i := 11) (N := some 75) #[true, true, true, true, true, true, true, true, true, true, true, true, false, false, false, true, false, false] rfl rfl (qe1 HT_.out (by kernel_rfl)) (by decide) (fun K hK => ?_); refine qk3 Try.func77 (by kernel_rfl) rfl #[.agg #[.slice A0_0 l0_0.length c0_0, .slice A0_1 l0_1.length c0_1, .slice A0_2 l0_2.length c0_2, .int .i64 a0_3, .int .i64 a0_4], .agg #[.int .i64 qcJ, .int .i64 qcA, .int .i64 qcu, .int .i64 qcm, .int .i64 qcf, .int .i64 qcb], .int .i64 (rd l1 qcR), .int .i64 (rd l2 qcR)] 64 (by rfl) rfl rfl rfl (by (try simp only [List.map_toArray, List.map_cons, List.map_nil]); first | done | rfl | (simp only [List.length_drop, List.length_take]; rfl)) ?_
                with_reducible refine (qcG.calls _ _ l0_0 _ _ l0_1 _ _ l0_2 a0_3 a0_4 qcJ qcA qcu qcm qcf qcb (rd l1 qcR) (rd l2 qcR) t171 t172 t173 t174 t175 t176 t177 _ ?side1 ?side2 ?side3 ?side4 ?side5 ?side6 A45.out).mono ?_
                (case side1 => repeat (first | exact (Kd.C_below qb9.out HB.out) | (with_reducible refine Kd.C_alloc ?_ _) | (with_reducible refine Kd.C_drewN ?_ _) | (with_reducible refine Kd.C_drew ?_)))
                (case side2 => exact qcx.out)
                (case side3 => repeat (first | exact (Kd.C_below qb2.out HB.out) | (with_reducible refine Kd.C_alloc ?_ _) | (with_reducible refine Kd.C_drewN ?_ _) | (with_reducible refine Kd.C_drew ?_)))
                (case side4 => exact qcj.out)
                (case side5 => repeat (first | exact (Kd.C_below qb8.out HB.out) | (with_reducible refine Kd.C_alloc ?_ _) | (with_reducible refine Kd.C_drewN ?_ _) | (with_reducible refine Kd.C_drew ?_)))
                (case side6 => exact qck.out)
                rintro e w49 ⟨rfl, hb⟩; refine ⟨_, rfl, ?_⟩; have n0_ := qaa.mk (Kd.R_below (by (with_reducible repeat (first | apply Kd.R_alloc | apply Kd.R_drewN | apply Kd.R_drew)); exact HO_13.out) hb); have n1_ := qaa.mk (qam (g := qcC) (o := .cells #[.slice A0_0 l0_0.length c0_0, .slice A0_1 l0_1.length c0_1, .slice A0_2 l0_2.length c0_2, .int .i64 a0_3, .int .i64 a0_4] 39 (0, 0)) (by (with_reducible repeat (first | refine qae ?_ _ | refine qai ?_ | refine qad ?_ _)); exact qbu.out) hb); have n2_ := qaa.mk (qam (g := qbB) (o := .cells #[.slice A0_0 l0_0.length c0_0, .slice A0_1 l0_1.length c0_1, .slice A0_2 l0_2.length c0_2, .int .i64 a0_3, .int .i64 a0_4] 111 (0, 0)) (by (with_reducible repeat (first | refine qae ?_ _ | refine qai ?_ | refine qad ?_ _)); exact qaM.out) hb); have n3_ := qaa.mk (qam (g := qbb) (o := .cells #[.int .i64 qcJ, .int .i64 qcA, .int .i64 qcu, .int .i64 qcm, .int .i64 qcf, .int .i64 qcb] 115 (0, 0)) (by (with_reducible repeat (first | refine qae ?_ _ | refine qai ?_ | refine qad ?_ _)); exact qbi.out) hb); have n4_ := qaa.mk (qam (g := qaD) (o := .cells #[.int .i64 0, .int .i64 0, .int .i64 0, .int .i64 0, .int .i64 0, .int .i64 0] 115 (0, 0)) (by (with_reducible repeat (first | refine qae ?_ _ | refine qai ?_ | refine qad ?_ _)); exact qcn.out) hb); have n5_ := qaa.mk (qap (by repeat (first | (with_reducible first | exact HB.out | apply qac | apply qab | apply qag | refine qah ?_ qcD.out | refine qah ?_ qcO.out | refine qah ?_ qfr.out | refine qah ?_ qgL.out) | exact HB.out)) hb); clear HO_13 qbu qaM qbi qcn HB; have HO_13 := n0_; have qbu := n1_; have qaM := n2_; have qbi := n3_; have qcn := n4_; have HB := n5_; clear n0_ n1_ n2_ n3_ n4_ n5_
                (try clear hb)
                (try clear hb2)
                (try clear hk)
                (try clear hi)
                refine hK.out _ _ ⟨(qaf qaM.out 0).trans rfl, (qaf qaM.out 1).trans rfl, (qaf qaM.out 2).trans rfl, (qaf qaM.out 3).trans rfl, (qaf qaM.out 4).trans rfl, (qaf qbi.out 0).trans rfl, (qaf qbi.out 1).trans rfl, (qaf qbi.out 2).trans rfl, (qaf qbi.out 3).trans rfl, (qaf qbi.out 4).trans rfl, (qaf qbi.out 5).trans rfl, ((HB.out.cell (World.block_lt_of_cell? w _ qcp)).trans qcp), ((HB.out.cell (World.block_lt_of_cell? w _ qcq)).trans qcq)⟩ (fun hHeld => ?_); clear hK K; refine qdZ (a' := ?_) ?_ ?_
                rotate_left
                ·
                 show Act.put _ (some 75) _ = _
                 simp only [Act.put, List.setIfInBounds_toArray, List.set_cons_zero, List.set_cons_succ, qaQ, qaU]
                 rfl
                refine qbI (i := 12) (N := some 63) (v := ?_) (a' := ?_) #[true, true, true, true, true, true, true, true, true, true, true, true, true, false, false, true, false, false] rfl rfl (qbr HT_.out (by kernel_rfl)) (fun _ _ _ h => h) (Or.inl ⟨by rfl, ?_⟩) ?_ ?_
                rotate_left
                ·
                 intro w'
                 go_simp
                 with_reducible rfl
                rotate_left
                ·
                 simp only [Act.put, List.setIfInBounds_toArray, List.set_cons_zero, List.set_cons_succ, qaQ, qaU]
                 rfl
                refine qbI (i := 13) (N := some 76) (v := ?_) (a' := ?_) #[true, true, true, true, true, true, true, true, true, true, true, true, true, true, false, true, false, false] rfl rfl (qbr HT_.out (by kernel_rfl)) (fun _ _ _ h => h) (Or.inl ⟨by rfl, ?_⟩) ?_ ?_
                rotate_left
                ·
                 intro w'
                 go_simp
                 with_reducible rfl
                rotate_left
                ·
                 simp only [Act.put, List.setIfInBounds_toArray, List.set_cons_zero, List.set_cons_succ, qaQ, qaU]
                 rfl
                refine qbI (i := 14) (N := some 77) (v := ?_) (a' := ?_) #[true, true, true, true, true, true, true, true, true, true, true, true, true, true, true, true, false, false] rfl rfl (qbr HT_.out (by kernel_rfl)) (fun _ _ _ h => h) (Or.inl ⟨by rfl, ?_⟩) ?_ ?_
                rotate_left
                ·
                 intro w'
                 go_simp
                 with_reducible rfl
                rotate_left
                ·
                 simp only [Act.put, List.setIfInBounds_toArray, List.set_cons_zero, List.set_cons_succ, qaQ, qaU]
                 rfl
                exact qdZ (by simp only [qhd, Act.put, List.setIfInBounds_toArray, List.set_cons_zero, List.set_cons_succ]) (hCont (qaD) _ ⟨hHeld, (by (with_reducible repeat (first | apply Kd.R_alloc | apply Kd.R_drewN | apply Kd.R_drew)); exact HO_13.out), (by (with_reducible repeat (first | refine qae ?_ _ | refine qai ?_ | refine qad ?_ _)); exact qbu.out), (by (with_reducible repeat (first | refine qae ?_ _ | refine qai ?_ | refine qad ?_ _)); exact qaM.out), (by (with_reducible repeat (first | refine qae ?_ _ | refine qai ?_ | refine qad ?_ _)); exact qbi.out), (by (with_reducible repeat (first | refine qae ?_ _ | refine qai ?_ | refine qad ?_ _)); exact qcn.out), qcc.out, qgL.out, qdx.out, qez.out, qbq.out, qeA.out, qa6.out, qbe.out, (by repeat (first | (with_reducible first | exact HB.out | apply qac | apply qab | apply qag | refine qah ?_ qcD.out | refine qah ?_ qcO.out | refine qah ?_ qfr.out | refine qah ?_ qgL.out) | exact HB.out))⟩)
               rintro qaD w50 ⟨hS_, h0_, h1_, h2_, h3_, h4_, h5_, h6_, h7_, h8_, h9_, h10_, h11_, h12_, h13_⟩; have n0_ : qaa (Kd.R (Kd.int .i64) 3 w50 w.heap.size (fun k_ => (w.heap.size ≤ k_)) u13 qdU) := ⟨h0_⟩; have n1_ : qaa (w50.heap[qcC]? = some (.cells #[.slice A0_0 l0_0.length c0_0, .slice A0_1 l0_1.length c0_1, .slice A0_2 l0_2.length c0_2, .int .i64 a0_3, .int .i64 a0_4] 39 (0, 0))) := ⟨h1_⟩; have n2_ : qaa (w50.heap[qbB]? = some (.cells #[.slice A0_0 l0_0.length c0_0, .slice A0_1 l0_1.length c0_1, .slice A0_2 l0_2.length c0_2, .int .i64 a0_3, .int .i64 a0_4] 111 (0, 0))) := ⟨h2_⟩; have n3_ : qaa (w50.heap[qbb]? = some (.cells #[.int .i64 qcJ, .int .i64 qcA, .int .i64 qcu, .int .i64 qcm, .int .i64 qcf, .int .i64 qcb] 115 (0, 0))) := ⟨h3_⟩; have n4_ : qaa (w50.heap[qaD]? = some (.cells #[.int .i64 0, .int .i64 0, .int .i64 0, .int .i64 0, .int .i64 0, .int .i64 0] 115 (0, 0))) := ⟨h4_⟩; have n5_ : qaa (w.heap.size ≤ qaD) := ⟨h5_⟩; have n6_ : qaa (w.heap.size ≤ qaD) := ⟨h6_⟩; have n7_ : qaa (qcC ≠ qaD) := ⟨h7_⟩; have n8_ : qaa (qaD ≠ qcC) := ⟨h8_⟩; have n9_ : qaa (qbB ≠ qaD) := ⟨h9_⟩; have n10_ : qaa (qaD ≠ qbB) := ⟨h10_⟩; have n11_ : qaa (qbb ≠ qaD) := ⟨h11_⟩; have n12_ : qaa (qaD ≠ qbb) := ⟨h12_⟩; have n13_ : qaa (Below w.heap.size w w50) := ⟨h13_⟩; clear HO_13 qbu qaM qbi HB h0_ h1_ h2_ h3_ h4_ h5_ h6_ h7_ h8_ h9_ h10_ h11_ h12_ h13_; have HO_13 := n0_; have qbu := n1_; have qaM := n2_; have qbi := n3_; have qcn := n4_; have qcc := n5_; have qgL := n6_; have qdx := n7_; have qez := n8_; have qbq := n9_; have qeA := n10_; have qa6 := n11_; have qbe := n12_; have HB := n13_; clear n0_ n1_ n2_ n3_ n4_ n5_ n6_ n7_ n8_ n9_ n10_ n11_ n12_ n13_; have hHeld : w50.cell? ⟨qbB, 0, none⟩ = some (.slice A0_0 l0_0.length c0_0) ∧ w50.cell? ⟨qbB, 1, none⟩ = some (.slice A0_1 l0_1.length c0_1) ∧ w50.cell? ⟨qbB, 2, none⟩ = some (.slice A0_2 l0_2.length c0_2) ∧ w50.cell? ⟨qbB, 3, none⟩ = some (.int .i64 a0_3) ∧ w50.cell? ⟨qbB, 4, none⟩ = some (.int .i64 a0_4) ∧ w50.cell? ⟨qbb, 0, none⟩ = some (.int .i64 qcJ) ∧ w50.cell? ⟨qbb, 1, none⟩ = some (.int .i64 qcA) ∧ w50.cell? ⟨qbb, 2, none⟩ = some (.int .i64 qcu) ∧ w50.cell? ⟨qbb, 3, none⟩ = some (.int .i64 qcm) ∧ w50.cell? ⟨qbb, 4, none⟩ = some (.int .i64 qcf) ∧ w50.cell? ⟨qbb, 5, none⟩ = some (.int .i64 qcb) ∧ w50.cell? (qpQ.add (qcR).toNat) = some (.int .i64 (rd l1 qcR)) ∧ w50.cell? (qpR.add (qcR).toNat) = some (.int .i64 (rd l2 qcR)) := hS_; refine qdZ (a' := ?_) ?_ ?_
               rotate_left
               ·
                simp only [qhd, Act.put, List.setIfInBounds_toArray, List.set_cons_zero, List.set_cons_succ]
                rfl
               refine qbI (i := 16) (N := some 15) (v := ?_) (a' := ?_) #[true, true, true, true, true, true, true, true, true, true, true, true, true, true, true, true, true, false] rfl rfl (qbr HT_.out (by kernel_rfl)) (fun _ _ _ h => h) (Or.inl ⟨by rfl, ?_⟩) ?_ ?_
               rotate_left
               ·
                intro w'
                go_simp
                with_reducible rfl
               rotate_left
               ·
                simp only [Act.put, List.setIfInBounds_toArray, List.set_cons_zero, List.set_cons_succ, qaQ, qaU]
                rfl
               refine one_ (i := 17) (N := none) #[true, true, true, true, true, true, true, true, true, true, true, true, true, true, true, true, true, true] rfl rfl (qe1 HT_.out (by kernel_rfl)) (by decide) (fun K hK => ?_); have hs51 : w50.cell? ⟨qaD, 0, none⟩ = some (.int .i64 0) := (qaf qcn.out 0).trans rfl; have qC9 := qaj qcn.out 0; have qwX := qdx.out; have qwY := qbq.out; have qwZ := qa6.out; have qw0 := qez.out; have qw1 := qeA.out; have qw2 := qbe.out; have hs52 : w50.cell? ⟨qaD, 1, none⟩ = some (.int .i64 0) := (qaf qcn.out 1).trans rfl; have qDa := qaj qcn.out 1; have qw3 := qdx.out; have qw4 := qbq.out; have qw5 := qa6.out; have qw6 := qez.out; have qw7 := qeA.out; have qw8 := qbe.out; have hs53 : w50.cell? ⟨qaD, 2, none⟩ = some (.int .i64 0) := (qaf qcn.out 2).trans rfl; have qDb := qaj qcn.out 2; have qw9 := qdx.out; have qxa := qbq.out; have qxb := qa6.out; have qxc := qez.out; have qxd := qeA.out; have qxe := qbe.out; have hs54 : w50.cell? ⟨qaD, 3, none⟩ = some (.int .i64 0) := (qaf qcn.out 3).trans rfl; have qDc := qaj qcn.out 3; have qxf := qdx.out; have qxg := qbq.out; have qxh := qa6.out; have qxi := qez.out; have qxj := qeA.out; have qxk := qbe.out; have hs55 : w50.cell? ⟨qaD, 4, none⟩ = some (.int .i64 0) := (qaf qcn.out 4).trans rfl; have qDd := qaj qcn.out 4; have qxl := qdx.out; have qxm := qbq.out; have qxn := qa6.out; have qxo := qez.out; have qxp := qeA.out; have qxq := qbe.out; have hs56 : w50.cell? ⟨qaD, 5, none⟩ = some (.int .i64 0) := (qaf qcn.out 5).trans rfl; have qDe := qaj qcn.out 5; have qxr := qdx.out; have qxs := qbq.out; have qxt := qa6.out; have qxu := qez.out; have qxv := qeA.out; have qxw := qbe.out; refine qng (w1 := ?_) (by rfl) rfl ?_ ?_
               rotate_left
               ·
                go_simp
                rfl
               refine hK.out _ _ ⟨((qar (p := ⟨qaD, _, none⟩) qbq.out _).trans (((qar (p := ⟨qaD, _, none⟩) qbq.out _).trans (((qar (p := ⟨qaD, _, none⟩) qbq.out _).trans (((qar (p := ⟨qaD, _, none⟩) qbq.out _).trans (((qar (p := ⟨qaD, _, none⟩) qbq.out _).trans (((qar (p := ⟨qaD, _, none⟩) qbq.out _).trans (hHeld.1)))))))))))), ((qar (p := ⟨qaD, _, none⟩) qbq.out _).trans (((qar (p := ⟨qaD, _, none⟩) qbq.out _).trans (((qar (p := ⟨qaD, _, none⟩) qbq.out _).trans (((qar (p := ⟨qaD, _, none⟩) qbq.out _).trans (((qar (p := ⟨qaD, _, none⟩) qbq.out _).trans (((qar (p := ⟨qaD, _, none⟩) qbq.out _).trans (hHeld.2.1)))))))))))), ((qar (p := ⟨qaD, _, none⟩) qbq.out _).trans (((qar (p := ⟨qaD, _, none⟩) qbq.out _).trans (((qar (p := ⟨qaD, _, none⟩) qbq.out _).trans (((qar (p := ⟨qaD, _, none⟩) qbq.out _).trans (((qar (p := ⟨qaD, _, none⟩) qbq.out _).trans (((qar (p := ⟨qaD, _, none⟩) qbq.out _).trans (hHeld.2.2.1)))))))))))), ((qar (p := ⟨qaD, _, none⟩) qbq.out _).trans (((qar (p := ⟨qaD, _, none⟩) qbq.out _).trans (((qar (p := ⟨qaD, _, none⟩) qbq.out _).trans (((qar (p := ⟨qaD, _, none⟩) qbq.out _).trans (((qar (p := ⟨qaD, _, none⟩) qbq.out _).trans (((qar (p := ⟨qaD, _, none⟩) qbq.out _).trans (hHeld.2.2.2.1)))))))))))), ((qar (p := ⟨qaD, _, none⟩) qbq.out _).trans (((qar (p := ⟨qaD, _, none⟩) qbq.out _).trans (((qar (p := ⟨qaD, _, none⟩) qbq.out _).trans (((qar (p := ⟨qaD, _, none⟩) qbq.out _).trans (((qar (p := ⟨qaD, _, none⟩) qbq.out _).trans (((qar (p := ⟨qaD, _, none⟩) qbq.out _).trans (hHeld.2.2.2.2.1)))))))))))), ((qar (p := ⟨qaD, _, none⟩) qa6.out _).trans (((qar (p := ⟨qaD, _, none⟩) qa6.out _).trans (((qar (p := ⟨qaD, _, none⟩) qa6.out _).trans (((qar (p := ⟨qaD, _, none⟩) qa6.out _).trans (((qar (p := ⟨qaD, _, none⟩) qa6.out _).trans (((qar (p := ⟨qaD, _, none⟩) qa6.out _).trans (hHeld.2.2.2.2.2.1)))))))))))), ((qar (p := ⟨qaD, _, none⟩) qa6.out _).trans (((qar (p := ⟨qaD, _, none⟩) qa6.out _).trans (((qar (p := ⟨qaD, _, none⟩) qa6.out _).trans (((qar (p := ⟨qaD, _, none⟩) qa6.out _).trans (((qar (p := ⟨qaD, _, none⟩) qa6.out _).trans (((qar (p := ⟨qaD, _, none⟩) qa6.out _).trans (hHeld.2.2.2.2.2.2.1)))))))))))), ((qar (p := ⟨qaD, _, none⟩) qa6.out _).trans (((qar (p := ⟨qaD, _, none⟩) qa6.out _).trans (((qar (p := ⟨qaD, _, none⟩) qa6.out _).trans (((qar (p := ⟨qaD, _, none⟩) qa6.out _).trans (((qar (p := ⟨qaD, _, none⟩) qa6.out _).trans (((qar (p := ⟨qaD, _, none⟩) qa6.out _).trans (hHeld.2.2.2.2.2.2.2.1)))))))))))), ((qar (p := ⟨qaD, _, none⟩) qa6.out _).trans (((qar (p := ⟨qaD, _, none⟩) qa6.out _).trans (((qar (p := ⟨qaD, _, none⟩) qa6.out _).trans (((qar (p := ⟨qaD, _, none⟩) qa6.out _).trans (((qar (p := ⟨qaD, _, none⟩) qa6.out _).trans (((qar (p := ⟨qaD, _, none⟩) qa6.out _).trans (hHeld.2.2.2.2.2.2.2.2.1)))))))))))), ((qar (p := ⟨qaD, _, none⟩) qa6.out _).trans (((qar (p := ⟨qaD, _, none⟩) qa6.out _).trans (((qar (p := ⟨qaD, _, none⟩) qa6.out _).trans (((qar (p := ⟨qaD, _, none⟩) qa6.out _).trans (((qar (p := ⟨qaD, _, none⟩) qa6.out _).trans (((qar (p := ⟨qaD, _, none⟩) qa6.out _).trans (hHeld.2.2.2.2.2.2.2.2.2.1)))))))))))), ((qar (p := ⟨qaD, _, none⟩) qa6.out _).trans (((qar (p := ⟨qaD, _, none⟩) qa6.out _).trans (((qar (p := ⟨qaD, _, none⟩) qa6.out _).trans (((qar (p := ⟨qaD, _, none⟩) qa6.out _).trans (((qar (p := ⟨qaD, _, none⟩) qa6.out _).trans (((qar (p := ⟨qaD, _, none⟩) qa6.out _).trans (hHeld.2.2.2.2.2.2.2.2.2.2.1)))))))))))), ((qar (p := ⟨qaD, _, none⟩) (by first | exact Nat.ne_of_lt (Nat.lt_of_lt_of_le (by have := World.block_lt_of_cell? _ _ qcp; first | rwa [qaq] at this | exact this) qcc.out) | (rw [qaq]; exact Nat.ne_of_lt (Nat.lt_of_lt_of_le (by have := World.block_lt_of_cell? _ _ qcp; first | rwa [qaq] at this | exact this) qcc.out)) | (show (Addr.add _ _).block ≠ _; rw [qaq]; exact Nat.ne_of_lt (Nat.lt_of_lt_of_le (by have := World.block_lt_of_cell? _ _ qcp; first | rwa [qaq] at this | exact this) qcc.out)) | (dsimp only; exact Nat.ne_of_lt (Nat.lt_of_lt_of_le (by have := World.block_lt_of_cell? _ _ qcp; first | rwa [qaq] at this | exact this) qcc.out))) _).trans (((qar (p := ⟨qaD, _, none⟩) (by first | exact Nat.ne_of_lt (Nat.lt_of_lt_of_le (by have := World.block_lt_of_cell? _ _ qcp; first | rwa [qaq] at this | exact this) qcc.out) | (rw [qaq]; exact Nat.ne_of_lt (Nat.lt_of_lt_of_le (by have := World.block_lt_of_cell? _ _ qcp; first | rwa [qaq] at this | exact this) qcc.out)) | (show (Addr.add _ _).block ≠ _; rw [qaq]; exact Nat.ne_of_lt (Nat.lt_of_lt_of_le (by have := World.block_lt_of_cell? _ _ qcp; first | rwa [qaq] at this | exact this) qcc.out)) | (dsimp only; exact Nat.ne_of_lt (Nat.lt_of_lt_of_le (by have := World.block_lt_of_cell? _ _ qcp; first | rwa [qaq] at this | exact this) qcc.out))) _).trans (((qar (p := ⟨qaD, _, none⟩) (by first | exact Nat.ne_of_lt (Nat.lt_of_lt_of_le (by have := World.block_lt_of_cell? _ _ qcp; first | rwa [qaq] at this | exact this) qcc.out) | (rw [qaq]; exact Nat.ne_of_lt (Nat.lt_of_lt_of_le (by have := World.block_lt_of_cell? _ _ qcp; first | rwa [qaq] at this | exact this) qcc.out)) | (show (Addr.add _ _).block ≠ _; rw [qaq]; exact Nat.ne_of_lt (Nat.lt_of_lt_of_le (by have := World.block_lt_of_cell? _ _ qcp; first | rwa [qaq] at this | exact this) qcc.out)) | (dsimp only; exact Nat.ne_of_lt (Nat.lt_of_lt_of_le (by have := World.block_lt_of_cell? _ _ qcp; first | rwa [qaq] at this | exact this) qcc.out))) _).trans (((qar (p := ⟨qaD, _, none⟩) (by first | exact Nat.ne_of_lt (Nat.lt_of_lt_of_le (by have := World.block_lt_of_cell? _ _ qcp; first | rwa [qaq] at this | exact this) qcc.out) | (rw [qaq]; exact Nat.ne_of_lt (Nat.lt_of_lt_of_le (by have := World.block_lt_of_cell? _ _ qcp; first | rwa [qaq] at this | exact this) qcc.out)) | (show (Addr.add _ _).block ≠ _; rw [qaq]; exact Nat.ne_of_lt (Nat.lt_of_lt_of_le (by have := World.block_lt_of_cell? _ _ qcp; first | rwa [qaq] at this | exact this) qcc.out)) | (dsimp only; exact Nat.ne_of_lt (Nat.lt_of_lt_of_le (by have := World.block_lt_of_cell? _ _ qcp; first | rwa [qaq] at this | exact this) qcc.out))) _).trans (((qar (p := ⟨qaD, _, none⟩) (by first | exact Nat.ne_of_lt (Nat.lt_of_lt_of_le (by have := World.block_lt_of_cell? _ _ qcp; first | rwa [qaq] at this | exact this) qcc.out) | (rw [qaq]; exact Nat.ne_of_lt (Nat.lt_of_lt_of_le (by have := World.block_lt_of_cell? _ _ qcp; first | rwa [qaq] at this | exact this) qcc.out)) | (show (Addr.add _ _).block ≠ _; rw [qaq]; exact Nat.ne_of_lt (Nat.lt_of_lt_of_le (by have := World.block_lt_of_cell? _ _ qcp; first | rwa [qaq] at this | exact this) qcc.out)) | (dsimp only; exact Nat.ne_of_lt (Nat.lt_of_lt_of_le (by have := World.block_lt_of_cell? _ _ qcp; first | rwa [qaq] at this | exact this) qcc.out))) _).trans (((qar (p := ⟨qaD, _, none⟩) (by first | exact Nat.ne_of_lt (Nat.lt_of_lt_of_le (by have := World.block_lt_of_cell? _ _ qcp; first | rwa [qaq] at this | exact this) qcc.out) | (rw [qaq]; exact Nat.ne_of_lt (Nat.lt_of_lt_of_le (by have := World.block_lt_of_cell? _ _ qcp; first | rwa [qaq] at this | exact this) qcc.out)) | (show (Addr.add _ _).block ≠ _; rw [qaq]; exact Nat.ne_of_lt (Nat.lt_of_lt_of_le (by have := World.block_lt_of_cell? _ _ qcp; first | rwa [qaq] at this | exact this) qcc.out)) | (dsimp only; exact Nat.ne_of_lt (Nat.lt_of_lt_of_le (by have := World.block_lt_of_cell? _ _ qcp; first | rwa [qaq] at this | exact this) qcc.out))) _).trans (hHeld.2.2.2.2.2.2.2.2.2.2.2.1)))))))))))), ((qar (p := ⟨qaD, _, none⟩) (by first | exact Nat.ne_of_lt (Nat.lt_of_lt_of_le (by have := World.block_lt_of_cell? _ _ qcq; first | rwa [qaq] at this | exact this) qcc.out) | (rw [qaq]; exact Nat.ne_of_lt (Nat.lt_of_lt_of_le (by have := World.block_lt_of_cell? _ _ qcq; first | rwa [qaq] at this | exact this) qcc.out)) | (show (Addr.add _ _).block ≠ _; rw [qaq]; exact Nat.ne_of_lt (Nat.lt_of_lt_of_le (by have := World.block_lt_of_cell? _ _ qcq; first | rwa [qaq] at this | exact this) qcc.out)) | (dsimp only; exact Nat.ne_of_lt (Nat.lt_of_lt_of_le (by have := World.block_lt_of_cell? _ _ qcq; first | rwa [qaq] at this | exact this) qcc.out))) _).trans (((qar (p := ⟨qaD, _, none⟩) (by first | exact Nat.ne_of_lt (Nat.lt_of_lt_of_le (by have := World.block_lt_of_cell? _ _ qcq; first | rwa [qaq] at this | exact this) qcc.out) | (rw [qaq]; exact Nat.ne_of_lt (Nat.lt_of_lt_of_le (by have := World.block_lt_of_cell? _ _ qcq; first | rwa [qaq] at this | exact this) qcc.out)) | (show (Addr.add _ _).block ≠ _; rw [qaq]; exact Nat.ne_of_lt (Nat.lt_of_lt_of_le (by have := World.block_lt_of_cell? _ _ qcq; first | rwa [qaq] at this | exact this) qcc.out)) | (dsimp only; exact Nat.ne_of_lt (Nat.lt_of_lt_of_le (by have := World.block_lt_of_cell? _ _ qcq; first | rwa [qaq] at this | exact this) qcc.out))) _).trans (((qar (p := ⟨qaD, _, none⟩) (by first | exact Nat.ne_of_lt (Nat.lt_of_lt_of_le (by have := World.block_lt_of_cell? _ _ qcq; first | rwa [qaq] at this | exact this) qcc.out) | (rw [qaq]; exact Nat.ne_of_lt (Nat.lt_of_lt_of_le (by have := World.block_lt_of_cell? _ _ qcq; first | rwa [qaq] at this | exact this) qcc.out)) | (show (Addr.add _ _).block ≠ _; rw [qaq]; exact Nat.ne_of_lt (Nat.lt_of_lt_of_le (by have := World.block_lt_of_cell? _ _ qcq; first | rwa [qaq] at this | exact this) qcc.out)) | (dsimp only; exact Nat.ne_of_lt (Nat.lt_of_lt_of_le (by have := World.block_lt_of_cell? _ _ qcq; first | rwa [qaq] at this | exact this) qcc.out))) _).trans (((qar (p := ⟨qaD, _, none⟩) (by first | exact Nat.ne_of_lt (Nat.lt_of_lt_of_le (by have := World.block_lt_of_cell? _ _ qcq; first | rwa [qaq] at this | exact this) qcc.out) | (rw [qaq]; exact Nat.ne_of_lt (Nat.lt_of_lt_of_le (by have := World.block_lt_of_cell? _ _ qcq; first | rwa [qaq] at this | exact this) qcc.out)) | (show (Addr.add _ _).block ≠ _; rw [qaq]; exact Nat.ne_of_lt (Nat.lt_of_lt_of_le (by have := World.block_lt_of_cell? _ _ qcq; first | rwa [qaq] at this | exact this) qcc.out)) | (dsimp only; exact Nat.ne_of_lt (Nat.lt_of_lt_of_le (by have := World.block_lt_of_cell? _ _ qcq; first | rwa [qaq] at this | exact this) qcc.out))) _).trans (((qar (p := ⟨qaD, _, none⟩) (by first | exact Nat.ne_of_lt (Nat.lt_of_lt_of_le (by have := World.block_lt_of_cell? _ _ qcq; first | rwa [qaq] at this | exact this) qcc.out) | (rw [qaq]; exact Nat.ne_of_lt (Nat.lt_of_lt_of_le (by have := World.block_lt_of_cell? _ _ qcq; first | rwa [qaq] at this | exact this) qcc.out)) | (show (Addr.add _ _).block ≠ _; rw [qaq]; exact Nat.ne_of_lt (Nat.lt_of_lt_of_le (by have := World.block_lt_of_cell? _ _ qcq; first | rwa [qaq] at this | exact this) qcc.out)) | (dsimp only; exact Nat.ne_of_lt (Nat.lt_of_lt_of_le (by have := World.block_lt_of_cell? _ _ qcq; first | rwa [qaq] at this | exact this) qcc.out))) _).trans (((qar (p := ⟨qaD, _, none⟩) (by first | exact Nat.ne_of_lt (Nat.lt_of_lt_of_le (by have := World.block_lt_of_cell? _ _ qcq; first | rwa [qaq] at this | exact this) qcc.out) | (rw [qaq]; exact Nat.ne_of_lt (Nat.lt_of_lt_of_le (by have := World.block_lt_of_cell? _ _ qcq; first | rwa [qaq] at this | exact this) qcc.out)) | (show (Addr.add _ _).block ≠ _; rw [qaq]; exact Nat.ne_of_lt (Nat.lt_of_lt_of_le (by have := World.block_lt_of_cell? _ _ qcq; first | rwa [qaq] at this | exact this) qcc.out)) | (dsimp only; exact Nat.ne_of_lt (Nat.lt_of_lt_of_le (by have := World.block_lt_of_cell? _ _ qcq; first | rwa [qaq] at this | exact this) qcc.out))) _).trans (hHeld.2.2.2.2.2.2.2.2.2.2.2.2))))))))))))⟩ (fun hHeld => ?_); clear hK K; refine qiO (qho HT_.out (by kernel_rfl)) ?_
               try go_wp2
               have n0_ : qaa (Kd.R (Kd.int .i64) 3 ((((((w50.setCell ⟨qaD, 0, none⟩ (.int .i64 t172)).setCell ⟨qaD, 1, none⟩ (.int .i64 t173)).setCell ⟨qaD, 2, none⟩ (.int .i64 t174)).setCell ⟨qaD, 3, none⟩ (.int .i64 t175)).setCell ⟨qaD, 4, none⟩ (.int .i64 t176)).setCell ⟨qaD, 5, none⟩ (.int .i64 t177)) w.heap.size (fun k_ => (w.heap.size ≤ k_)) u13 qdU) := ⟨by (with_reducible repeat (first | apply Kd.R_alloc | apply Kd.R_drewN | apply Kd.R_drew)); exact Kd.R_mono (Kd.R_far (p := ⟨qaD, 5, none⟩) (Kd.R_far (p := ⟨qaD, 4, none⟩) (Kd.R_far (p := ⟨qaD, 3, none⟩) (Kd.R_far (p := ⟨qaD, 2, none⟩) (Kd.R_far (p := ⟨qaD, 1, none⟩) (Kd.R_far (p := ⟨qaD, 0, none⟩) (Kd.R_types HO_13.out qcn.out (by decide)) (fun _ hk => hk.2) (.int .i64 t172)) (fun _ hk => hk.2) (.int .i64 t173)) (fun _ hk => hk.2) (.int .i64 t174)) (fun _ hk => hk.2) (.int .i64 t175)) (fun _ hk => hk.2) (.int .i64 t176)) (fun _ hk => hk.2) (.int .i64 t177)) (fun _ hk => hk.1)⟩; have n1_ : qaa (((((((w50.setCell ⟨qaD, 0, none⟩ (.int .i64 t172)).setCell ⟨qaD, 1, none⟩ (.int .i64 t173)).setCell ⟨qaD, 2, none⟩ (.int .i64 t174)).setCell ⟨qaD, 3, none⟩ (.int .i64 t175)).setCell ⟨qaD, 4, none⟩ (.int .i64 t176)).setCell ⟨qaD, 5, none⟩ (.int .i64 t177)).heap[qcC]? = some (.cells #[.slice A0_0 l0_0.length c0_0, .slice A0_1 l0_1.length c0_1, .slice A0_2 l0_2.length c0_2, .int .i64 a0_3, .int .i64 a0_4] 39 (0, 0))) := ⟨by (with_reducible repeat (first | refine qae ?_ _ | refine qai ?_ | refine qad ?_ _)); refine qao ?_ qdx.out _; (with_reducible repeat (first | refine qae ?_ _ | refine qai ?_ | refine qad ?_ _)); refine qao ?_ qdx.out _; (with_reducible repeat (first | refine qae ?_ _ | refine qai ?_ | refine qad ?_ _)); refine qao ?_ qdx.out _; (with_reducible repeat (first | refine qae ?_ _ | refine qai ?_ | refine qad ?_ _)); refine qao ?_ qdx.out _; (with_reducible repeat (first | refine qae ?_ _ | refine qai ?_ | refine qad ?_ _)); refine qao ?_ qdx.out _; (with_reducible repeat (first | refine qae ?_ _ | refine qai ?_ | refine qad ?_ _)); refine qao ?_ qdx.out _; (with_reducible repeat (first | refine qae ?_ _ | refine qai ?_ | refine qad ?_ _)); exact qbu.out⟩; have n2_ : qaa (((((((w50.setCell ⟨qaD, 0, none⟩ (.int .i64 t172)).setCell ⟨qaD, 1, none⟩ (.int .i64 t173)).setCell ⟨qaD, 2, none⟩ (.int .i64 t174)).setCell ⟨qaD, 3, none⟩ (.int .i64 t175)).setCell ⟨qaD, 4, none⟩ (.int .i64 t176)).setCell ⟨qaD, 5, none⟩ (.int .i64 t177)).heap[qbB]? = some (.cells #[.slice A0_0 l0_0.length c0_0, .slice A0_1 l0_1.length c0_1, .slice A0_2 l0_2.length c0_2, .int .i64 a0_3, .int .i64 a0_4] 111 (0, 0))) := ⟨by (with_reducible repeat (first | refine qae ?_ _ | refine qai ?_ | refine qad ?_ _)); refine qao ?_ qbq.out _; (with_reducible repeat (first | refine qae ?_ _ | refine qai ?_ | refine qad ?_ _)); refine qao ?_ qbq.out _; (with_reducible repeat (first | refine qae ?_ _ | refine qai ?_ | refine qad ?_ _)); refine qao ?_ qbq.out _; (with_reducible repeat (first | refine qae ?_ _ | refine qai ?_ | refine qad ?_ _)); refine qao ?_ qbq.out _; (with_reducible repeat (first | refine qae ?_ _ | refine qai ?_ | refine qad ?_ _)); refine qao ?_ qbq.out _; (with_reducible repeat (first | refine qae ?_ _ | refine qai ?_ | refine qad ?_ _)); refine qao ?_ qbq.out _; (with_reducible repeat (first | refine qae ?_ _ | refine qai ?_ | refine qad ?_ _)); exact qaM.out⟩; have n3_ : qaa (((((((w50.setCell ⟨qaD, 0, none⟩ (.int .i64 t172)).setCell ⟨qaD, 1, none⟩ (.int .i64 t173)).setCell ⟨qaD, 2, none⟩ (.int .i64 t174)).setCell ⟨qaD, 3, none⟩ (.int .i64 t175)).setCell ⟨qaD, 4, none⟩ (.int .i64 t176)).setCell ⟨qaD, 5, none⟩ (.int .i64 t177)).heap[qbb]? = some (.cells #[.int .i64 qcJ, .int .i64 qcA, .int .i64 qcu, .int .i64 qcm, .int .i64 qcf, .int .i64 qcb] 115 (0, 0))) := ⟨by (with_reducible repeat (first | refine qae ?_ _ | refine qai ?_ | refine qad ?_ _)); refine qao ?_ qa6.out _; (with_reducible repeat (first | refine qae ?_ _ | refine qai ?_ | refine qad ?_ _)); refine qao ?_ qa6.out _; (with_reducible repeat (first | refine qae ?_ _ | refine qai ?_ | refine qad ?_ _)); refine qao ?_ qa6.out _; (with_reducible repeat (first | refine qae ?_ _ | refine qai ?_ | refine qad ?_ _)); refine qao ?_ qa6.out _; (with_reducible repeat (first | refine qae ?_ _ | refine qai ?_ | refine qad ?_ _)); refine qao ?_ qa6.out _; (with_reducible repeat (first | refine qae ?_ _ | refine qai ?_ | refine qad ?_ _)); refine qao ?_ qa6.out _; (with_reducible repeat (first | refine qae ?_ _ | refine qai ?_ | refine qad ?_ _)); exact qbi.out⟩; have n4_ : qaa (((((((w50.setCell ⟨qaD, 0, none⟩ (.int .i64 t172)).setCell ⟨qaD, 1, none⟩ (.int .i64 t173)).setCell ⟨qaD, 2, none⟩ (.int .i64 t174)).setCell ⟨qaD, 3, none⟩ (.int .i64 t175)).setCell ⟨qaD, 4, none⟩ (.int .i64 t176)).setCell ⟨qaD, 5, none⟩ (.int .i64 t177)).heap[qaD]? = some (.cells #[.int .i64 t172, .int .i64 t173, .int .i64 t174, .int .i64 t175, .int .i64 t176, .int .i64 t177] 115 (0, 0))) := ⟨by (with_reducible repeat (first | refine qae ?_ _ | refine qai ?_ | refine qad ?_ _)); refine qaE (cs := #[.int .i64 t172, .int .i64 t173, .int .i64 t174, .int .i64 t175, .int .i64 t176, .int .i64 0]) ?_ 5 _ rfl; (with_reducible repeat (first | refine qae ?_ _ | refine qai ?_ | refine qad ?_ _)); refine qaE (cs := #[.int .i64 t172, .int .i64 t173, .int .i64 t174, .int .i64 t175, .int .i64 0, .int .i64 0]) ?_ 4 _ rfl; (with_reducible repeat (first | refine qae ?_ _ | refine qai ?_ | refine qad ?_ _)); refine qaE (cs := #[.int .i64 t172, .int .i64 t173, .int .i64 t174, .int .i64 0, .int .i64 0, .int .i64 0]) ?_ 3 _ rfl; (with_reducible repeat (first | refine qae ?_ _ | refine qai ?_ | refine qad ?_ _)); refine qaE (cs := #[.int .i64 t172, .int .i64 t173, .int .i64 0, .int .i64 0, .int .i64 0, .int .i64 0]) ?_ 2 _ rfl; (with_reducible repeat (first | refine qae ?_ _ | refine qai ?_ | refine qad ?_ _)); refine qaE (cs := #[.int .i64 t172, .int .i64 0, .int .i64 0, .int .i64 0, .int .i64 0, .int .i64 0]) ?_ 1 _ rfl; (with_reducible repeat (first | refine qae ?_ _ | refine qai ?_ | refine qad ?_ _)); refine qaE (cs := #[.int .i64 0, .int .i64 0, .int .i64 0, .int .i64 0, .int .i64 0, .int .i64 0]) ?_ 0 _ rfl; (with_reducible repeat (first | refine qae ?_ _ | refine qai ?_ | refine qad ?_ _)); exact qcn.out⟩; have n5_ : qaa (Below w.heap.size w ((((((w50.setCell ⟨qaD, 0, none⟩ (.int .i64 t172)).setCell ⟨qaD, 1, none⟩ (.int .i64 t173)).setCell ⟨qaD, 2, none⟩ (.int .i64 t174)).setCell ⟨qaD, 3, none⟩ (.int .i64 t175)).setCell ⟨qaD, 4, none⟩ (.int .i64 t176)).setCell ⟨qaD, 5, none⟩ (.int .i64 t177))) := ⟨by repeat (first | (with_reducible first | exact HB.out | apply qac | apply qab | apply qag | refine qah ?_ qcD.out | refine qah ?_ qcO.out | refine qah ?_ qfr.out | refine qah ?_ qgL.out) | exact HB.out)⟩
               (try clear HO_13)
               (try clear qbu)
               (try clear qaM)
               (try clear qbi)
               (try clear qcn)
               (try clear HB)
               generalize ((((((w50.setCell ⟨qaD, 0, none⟩ (.int .i64 t172)).setCell ⟨qaD, 1, none⟩ (.int .i64 t173)).setCell ⟨qaD, 2, none⟩ (.int .i64 t174)).setCell ⟨qaD, 3, none⟩ (.int .i64 t175)).setCell ⟨qaD, 4, none⟩ (.int .i64 t176)).setCell ⟨qaD, 5, none⟩ (.int .i64 t177)) = w57 at n0_ n1_ n2_ n3_ n4_ n5_ ⊢
               have HO_13 := n0_; have qbu := n1_; have qaM := n2_; have qbi := n3_; have qcn := n4_; have HB := n5_; clear n0_ n1_ n2_ n3_ n4_ n5_; have n0_ := qaa.mk (Kd.R_drew HO_13.out); have n1_ := qaa.mk (qai qbu.out); have n2_ := qaa.mk (qai qaM.out); have n3_ := qaa.mk (qai qbi.out); have n4_ := qaa.mk (qai qcn.out); have n5_ := qaa.mk (qag HB.out); clear HO_13 qbu qaM qbi qcn HB; have HO_13 := n0_; have qbu := n1_; have qaM := n2_; have qbi := n3_; have qcn := n4_; have HB := n5_; clear n0_ n1_ n2_ n3_ n4_ n5_; refine qhT (n := 7) (S := fun w' => w'.cell? ⟨qaD, 0, none⟩ = some (.int .i64 t172) ∧ w'.cell? ⟨qaD, 1, none⟩ = some (.int .i64 t173) ∧ w'.cell? ⟨qaD, 2, none⟩ = some (.int .i64 t174) ∧ w'.cell? ⟨qaD, 3, none⟩ = some (.int .i64 t175) ∧ w'.cell? ⟨qaD, 4, none⟩ = some (.int .i64 t176) ∧ w'.cell? ⟨qaD, 5, none⟩ = some (.int .i64 t177)) (ds := []) #[false, false, false, false, false, false, false] (by kernel_rfl) rfl rfl ⟨(qaf qcn.out 0).trans rfl, (qaf qcn.out 1).trans rfl, (qaf qcn.out 2).trans rfl, (qaf qcn.out 3).trans rfl, (qaf qcn.out 4).trans rfl, (qaf qcn.out 5).trans rfl⟩ (fun hHeld => ?_)
               generalize w57.drew = w58 at HO_13 qbu qaM qbi qcn HB hHeld ⊢
               refine qbI (i := 0) (N := some 78) (v := ?_) (a' := ?_) #[true, false, false, false, false, false, false] rfl rfl (by kernel_rfl) (fun _ _ _ h => h) (Or.inl ⟨by rfl, ?_⟩) ?_ ?_
               rotate_left
               ·
                intro w'
                go_simp
                with_reducible rfl
               rotate_left
               ·
                simp only [Act.put, List.setIfInBounds_toArray, List.set_cons_zero, List.set_cons_succ, qaQ, qaU]
                rfl
               refine qbI (i := 1) (N := some 79) (v := ?_) (a' := ?_) #[true, true, false, false, false, false, false] rfl rfl (by kernel_rfl) (fun _ _ _ h => h) (Or.inl ⟨by rfl, ?_⟩) ?_ ?_
               rotate_left
               ·
                intro w'
                go_simp
                with_reducible rfl
               rotate_left
               ·
                simp only [Act.put, List.setIfInBounds_toArray, List.set_cons_zero, List.set_cons_succ, qaQ, qaU]
                rfl
               refine take_ (i := 4) (N := some 82) (v := ?_) (a' := ?_) #[true, true, false, false, true, false, false] rfl rfl (by kernel_rfl) (fun _ _ _ h => h) (Or.inl ⟨by rfl, ?_⟩) hHeld ?_ ?_
               rotate_left
               ·
                rintro w' ⟨s0, s1, s2, s3, s4, s5⟩
                go_simp
                with_reducible rfl
               rotate_left
               ·
                simp only [Act.put, List.setIfInBounds_toArray, List.set_cons_zero, List.set_cons_succ, qaQ, qaU]
                rfl
               refine one_ (i := 2) (N := some 80) #[true, true, true, false, true, false, false] rfl rfl (by kernel_rfl) (by decide) (fun K hK => ?_); refine qnL (w1 := ?_) (v := ?_) (by rfl) rfl ?_ ?_
               rotate_left 2
               ·
                go_simp
                constructor
                ·
                 rfl
                rfl
               refine hK.out _ _ ⟨(qaf (qad qcn.out _) 0).trans rfl, (qaf (qad qcn.out _) 1).trans rfl, (qaf (qad qcn.out _) 2).trans rfl, (qaf (qad qcn.out _) 3).trans rfl, (qaf (qad qcn.out _) 4).trans rfl, (qaf (qad qcn.out _) 5).trans rfl⟩ (fun hHeld => ?_); clear hK K; refine qdZ (a' := ?_) ?_ ?_
               rotate_left
               ·
                show Act.put _ (some 80) _ = _
                simp only [Act.put, List.setIfInBounds_toArray, List.set_cons_zero, List.set_cons_succ, qaQ, qaU]
                rfl
               refine one_ (i := 3) (N := some 81) #[true, true, true, true, true, false, false] rfl rfl (by kernel_rfl) (by decide) (fun K hK => ?_); refine Kd.R_append_step (Kd.int .i64) (w0 := w) w.heap.size (by rfl) (.tmp 78) (.tmp 80) 37 3 (.int .i64 0) 8 rfl Try.underlying37 qhf rfl (by decide) (by omega) u13 qdU t171 [.int .i64 t171] (fun k_ => (w.heap.size ≤ k_)) (fun _ => False) rfl rfl ?aP (fun _ hk => hk.elim) ?aF ?aO ?aB ?aS ?aL ?_
               (case aP => exact rfl)
               (case aB => exact (by repeat (first | (with_reducible first | exact HB.out | apply qac | apply qab | apply qag | refine qah ?_ qcD.out | refine qah ?_ qcO.out | refine qah ?_ qfr.out | refine qah ?_ qgL.out) | exact HB.out)))
               (case aF => exact (fun k_ hk => (Nat.le_trans (qal (by repeat (first | (with_reducible first | exact HB.out | apply qac | apply qab | apply qag | refine qah ?_ qcD.out | refine qah ?_ qcO.out | refine qah ?_ qfr.out | refine qah ?_ qgL.out) | exact HB.out))) hk)))
               (case aO => exact (by (with_reducible repeat (first | apply Kd.R_alloc | apply Kd.R_drewN | apply Kd.R_drew)); exact HO_13.out))
               (case aS => exact (qal (by repeat (first | (with_reducible first | exact HB.out | apply qac | apply qab | apply qag | refine qah ?_ qcD.out | refine qah ?_ qcO.out | refine qah ?_ qfr.out | refine qah ?_ qgL.out) | exact HB.out))))
               (case aL => have := qu0.out; omega)
               intro v180 w59 ho hb hg hat; rw [← qu1.out] at ho; have n0_ := qaa.mk (qdw (g := qcC) (o := .cells #[.slice A0_0 l0_0.length c0_0, .slice A0_1 l0_1.length c0_1, .slice A0_2 l0_2.length c0_2, .int .i64 a0_3, .int .i64 a0_4] 39 (0, 0)) (by (with_reducible repeat (first | refine qae ?_ _ | refine qai ?_ | refine qad ?_ _)); exact qbu.out) hg (Kd.R_ne HO_13.out qbu.out (by decide))); have n1_ := qaa.mk (qdw (g := qbB) (o := .cells #[.slice A0_0 l0_0.length c0_0, .slice A0_1 l0_1.length c0_1, .slice A0_2 l0_2.length c0_2, .int .i64 a0_3, .int .i64 a0_4] 111 (0, 0)) (by (with_reducible repeat (first | refine qae ?_ _ | refine qai ?_ | refine qad ?_ _)); exact qaM.out) hg (Kd.R_ne HO_13.out qaM.out (by decide))); have n2_ := qaa.mk (qdw (g := qbb) (o := .cells #[.int .i64 qcJ, .int .i64 qcA, .int .i64 qcu, .int .i64 qcm, .int .i64 qcf, .int .i64 qcb] 115 (0, 0)) (by (with_reducible repeat (first | refine qae ?_ _ | refine qai ?_ | refine qad ?_ _)); exact qbi.out) hg (Kd.R_ne HO_13.out qbi.out (by decide))); have n3_ := qaa.mk (qdw (g := qaD) (o := .cells #[.int .i64 t172, .int .i64 t173, .int .i64 t174, .int .i64 t175, .int .i64 t176, .int .i64 t177] 115 (0, 0)) (by (with_reducible repeat (first | refine qae ?_ _ | refine qai ?_ | refine qad ?_ _)); exact qcn.out) hg (Kd.R_ne HO_13.out qcn.out (by decide))); have n4_ := qaa.mk (hb); have n5_ := qaa.mk (ho); clear qbu qaM qbi qcn HB HO_13; have qbu := n0_; have qaM := n1_; have qbi := n2_; have qcn := n3_; have HB := n4_; have qu2 := n5_; clear n0_ n1_ n2_ n3_ n4_ n5_ ho hb hg hat; refine hK.out _ _ ⟨(qaf qcn.out 0).trans rfl, (qaf qcn.out 1).trans rfl, (qaf qcn.out 2).trans rfl, (qaf qcn.out 3).trans rfl, (qaf qcn.out 4).trans rfl, (qaf qcn.out 5).trans rfl⟩ (fun hHeld => ?_); clear hK K; refine qdZ (a' := ?_) ?_ ?_
               rotate_left
               ·
                show Act.put _ (some 81) _ = _
                simp only [Act.put, List.setIfInBounds_toArray, List.set_cons_zero, List.set_cons_succ, qaQ, qaU]
                rfl
               refine qbI (i := 5) (N := some 13) (v := ?_) (a' := ?_) #[true, true, true, true, true, true, false] rfl rfl (by kernel_rfl) (fun _ _ _ h => h) (Or.inl ⟨by rfl, ?_⟩) ?_ ?_
               rotate_left
               ·
                intro w'
                go_simp
                with_reducible rfl
               rotate_left
               ·
                simp only [Act.put, List.setIfInBounds_toArray, List.set_cons_zero, List.set_cons_succ, qaQ, qaU]
                rfl
               refine one_ (i := 6) (N := none) #[true, true, true, true, true, true, true] rfl rfl (by kernel_rfl) (by decide) (fun K hK => ?_); have hs60 : w59.cell? ⟨qbb, 0, none⟩ = some (.int .i64 qcJ) := (qaf qbi.out 0).trans rfl; have qDf := qaj qbi.out 0; have qxx := qdf.out; have qxy := qdg.out; have qxz := qbe.out; have qxA := qgh.out; have qxB := qgi.out; have qxC := qa6.out; have hs61 : w59.cell? ⟨qbb, 1, none⟩ = some (.int .i64 qcA) := (qaf qbi.out 1).trans rfl; have qDg := qaj qbi.out 1; have qxD := qdf.out; have qxE := qdg.out; have qxF := qbe.out; have qxG := qgh.out; have qxH := qgi.out; have qxI := qa6.out; have hs62 : w59.cell? ⟨qbb, 2, none⟩ = some (.int .i64 qcu) := (qaf qbi.out 2).trans rfl; have qDh := qaj qbi.out 2; have qxJ := qdf.out; have qxK := qdg.out; have qxL := qbe.out; have qxM := qgh.out; have qxN := qgi.out; have qxO := qa6.out; have hs63 : w59.cell? ⟨qbb, 3, none⟩ = some (.int .i64 qcm) := (qaf qbi.out 3).trans rfl; have qDi := qaj qbi.out 3; have qxP := qdf.out; have qxQ := qdg.out; have qxR := qbe.out; have qxS := qgh.out; have qxT := qgi.out; have qxU := qa6.out; have hs64 : w59.cell? ⟨qbb, 4, none⟩ = some (.int .i64 qcf) := (qaf qbi.out 4).trans rfl; have qDj := qaj qbi.out 4; have qxV := qdf.out; have qxW := qdg.out; have qxX := qbe.out; have qxY := qgh.out; have qxZ := qgi.out; have qx0 := qa6.out; have hs65 : w59.cell? ⟨qbb, 5, none⟩ = some (.int .i64 qcb) := (qaf qbi.out 5).trans rfl; have qDk := qaj qbi.out 5; have qx1 := qdf.out; have qx2 := qdg.out; have qx3 := qbe.out; have qx4 := qgh.out; have qx5 := qgi.out; have qx6 := qa6.out; refine qng (w1 := ?_) (by rfl) rfl ?_ ?_
               rotate_left
               ·
                go_simp
                rfl
               refine hK.out _ _ ⟨((qar (p := ⟨qbb, _, none⟩) qbe.out _).trans (((qar (p := ⟨qbb, _, none⟩) qbe.out _).trans (((qar (p := ⟨qbb, _, none⟩) qbe.out _).trans (((qar (p := ⟨qbb, _, none⟩) qbe.out _).trans (((qar (p := ⟨qbb, _, none⟩) qbe.out _).trans (((qar (p := ⟨qbb, _, none⟩) qbe.out _).trans (hHeld.1)))))))))))), ((qar (p := ⟨qbb, _, none⟩) qbe.out _).trans (((qar (p := ⟨qbb, _, none⟩) qbe.out _).trans (((qar (p := ⟨qbb, _, none⟩) qbe.out _).trans (((qar (p := ⟨qbb, _, none⟩) qbe.out _).trans (((qar (p := ⟨qbb, _, none⟩) qbe.out _).trans (((qar (p := ⟨qbb, _, none⟩) qbe.out _).trans (hHeld.2.1)))))))))))), ((qar (p := ⟨qbb, _, none⟩) qbe.out _).trans (((qar (p := ⟨qbb, _, none⟩) qbe.out _).trans (((qar (p := ⟨qbb, _, none⟩) qbe.out _).trans (((qar (p := ⟨qbb, _, none⟩) qbe.out _).trans (((qar (p := ⟨qbb, _, none⟩) qbe.out _).trans (((qar (p := ⟨qbb, _, none⟩) qbe.out _).trans (hHeld.2.2.1)))))))))))), ((qar (p := ⟨qbb, _, none⟩) qbe.out _).trans (((qar (p := ⟨qbb, _, none⟩) qbe.out _).trans (((qar (p := ⟨qbb, _, none⟩) qbe.out _).trans (((qar (p := ⟨qbb, _, none⟩) qbe.out _).trans (((qar (p := ⟨qbb, _, none⟩) qbe.out _).trans (((qar (p := ⟨qbb, _, none⟩) qbe.out _).trans (hHeld.2.2.2.1)))))))))))), ((qar (p := ⟨qbb, _, none⟩) qbe.out _).trans (((qar (p := ⟨qbb, _, none⟩) qbe.out _).trans (((qar (p := ⟨qbb, _, none⟩) qbe.out _).trans (((qar (p := ⟨qbb, _, none⟩) qbe.out _).trans (((qar (p := ⟨qbb, _, none⟩) qbe.out _).trans (((qar (p := ⟨qbb, _, none⟩) qbe.out _).trans (hHeld.2.2.2.2.1)))))))))))), ((qar (p := ⟨qbb, _, none⟩) qbe.out _).trans (((qar (p := ⟨qbb, _, none⟩) qbe.out _).trans (((qar (p := ⟨qbb, _, none⟩) qbe.out _).trans (((qar (p := ⟨qbb, _, none⟩) qbe.out _).trans (((qar (p := ⟨qbb, _, none⟩) qbe.out _).trans (((qar (p := ⟨qbb, _, none⟩) qbe.out _).trans (hHeld.2.2.2.2.2))))))))))))⟩ (fun hHeld => ?_); clear hK K; refine qiO (by kernel_rfl) ?_
               try go_wp2
               go_roundg k4
               case measure => have := HJ3.out; have := HK2.out; have := HJ22.out; have := HK4.out; omega
               case rel => exact ⟨(y179), (wrap64 (qcR + 1)), (t172), (t173), (t174), (t175), (t176), (t177), (by first | rfl | (simp; done) | (simp [*]; done)), H', ⟨by have := HJ3.out; have := HK2.out; have := HJ22.out; have := HK4.out; omega⟩, ⟨by (with_reducible repeat (first | apply Kd.R_alloc | apply Kd.R_drewN | apply Kd.R_drew)); exact Kd.R_mono (Kd.R_far (p := ⟨qbb, 5, none⟩) (Kd.R_far (p := ⟨qbb, 4, none⟩) (Kd.R_far (p := ⟨qbb, 3, none⟩) (Kd.R_far (p := ⟨qbb, 2, none⟩) (Kd.R_far (p := ⟨qbb, 1, none⟩) (Kd.R_far (p := ⟨qbb, 0, none⟩) (Kd.R_types qu2.out qbi.out (by decide)) (fun _ hk => hk.2) (.int .i64 t172)) (fun _ hk => hk.2) (.int .i64 t173)) (fun _ hk => hk.2) (.int .i64 t174)) (fun _ hk => hk.2) (.int .i64 t175)) (fun _ hk => hk.2) (.int .i64 t176)) (fun _ hk => hk.2) (.int .i64 t177)) (fun _ hk => hk.1)⟩, ⟨by (with_reducible repeat (first | refine qae ?_ _ | refine qai ?_ | refine qad ?_ _)); refine qao ?_ qdf.out _; (with_reducible repeat (first | refine qae ?_ _ | refine qai ?_ | refine qad ?_ _)); refine qao ?_ qdf.out _; (with_reducible repeat (first | refine qae ?_ _ | refine qai ?_ | refine qad ?_ _)); refine qao ?_ qdf.out _; (with_reducible repeat (first | refine qae ?_ _ | refine qai ?_ | refine qad ?_ _)); refine qao ?_ qdf.out _; (with_reducible repeat (first | refine qae ?_ _ | refine qai ?_ | refine qad ?_ _)); refine qao ?_ qdf.out _; (with_reducible repeat (first | refine qae ?_ _ | refine qai ?_ | refine qad ?_ _)); refine qao ?_ qdf.out _; (with_reducible repeat (first | refine qae ?_ _ | refine qai ?_ | refine qad ?_ _)); exact qbu.out⟩, ⟨by (with_reducible repeat (first | refine qae ?_ _ | refine qai ?_ | refine qad ?_ _)); refine qao ?_ qdg.out _; (with_reducible repeat (first | refine qae ?_ _ | refine qai ?_ | refine qad ?_ _)); refine qao ?_ qdg.out _; (with_reducible repeat (first | refine qae ?_ _ | refine qai ?_ | refine qad ?_ _)); refine qao ?_ qdg.out _; (with_reducible repeat (first | refine qae ?_ _ | refine qai ?_ | refine qad ?_ _)); refine qao ?_ qdg.out _; (with_reducible repeat (first | refine qae ?_ _ | refine qai ?_ | refine qad ?_ _)); refine qao ?_ qdg.out _; (with_reducible repeat (first | refine qae ?_ _ | refine qai ?_ | refine qad ?_ _)); refine qao ?_ qdg.out _; (with_reducible repeat (first | refine qae ?_ _ | refine qai ?_ | refine qad ?_ _)); exact qaM.out⟩, ⟨by (with_reducible repeat (first | refine qae ?_ _ | refine qai ?_ | refine qad ?_ _)); refine qaE (cs := #[.int .i64 t172, .int .i64 t173, .int .i64 t174, .int .i64 t175, .int .i64 t176, .int .i64 qcb]) ?_ 5 _ rfl; (with_reducible repeat (first | refine qae ?_ _ | refine qai ?_ | refine qad ?_ _)); refine qaE (cs := #[.int .i64 t172, .int .i64 t173, .int .i64 t174, .int .i64 t175, .int .i64 qcf, .int .i64 qcb]) ?_ 4 _ rfl; (with_reducible repeat (first | refine qae ?_ _ | refine qai ?_ | refine qad ?_ _)); refine qaE (cs := #[.int .i64 t172, .int .i64 t173, .int .i64 t174, .int .i64 qcm, .int .i64 qcf, .int .i64 qcb]) ?_ 3 _ rfl; (with_reducible repeat (first | refine qae ?_ _ | refine qai ?_ | refine qad ?_ _)); refine qaE (cs := #[.int .i64 t172, .int .i64 t173, .int .i64 qcu, .int .i64 qcm, .int .i64 qcf, .int .i64 qcb]) ?_ 2 _ rfl; (with_reducible repeat (first | refine qae ?_ _ | refine qai ?_ | refine qad ?_ _)); refine qaE (cs := #[.int .i64 t172, .int .i64 qcA, .int .i64 qcu, .int .i64 qcm, .int .i64 qcf, .int .i64 qcb]) ?_ 1 _ rfl; (with_reducible repeat (first | refine qae ?_ _ | refine qai ?_ | refine qad ?_ _)); refine qaE (cs := #[.int .i64 qcJ, .int .i64 qcA, .int .i64 qcu, .int .i64 qcm, .int .i64 qcf, .int .i64 qcb]) ?_ 0 _ rfl; (with_reducible repeat (first | refine qae ?_ _ | refine qai ?_ | refine qad ?_ _)); exact qbi.out⟩, ⟨by repeat (first | (with_reducible first | exact HB.out | apply qac | apply qab | apply qag | refine qah ?_ qcD.out | refine qah ?_ qcO.out | refine qah ?_ qfr.out | refine qah ?_ qgL.out) | exact HB.out)⟩⟩
              rw [if_neg c46] at H
              exact absurd H (by simp)
             rw [if_neg c44] at H
             exact absurd H (by simp)
            rw [if_neg c43] at H
            exact absurd H (by simp)
           rw [if_neg c42] at H
           exact absurd H (by simp)
          rw [if_neg c41] at H; have c41b0 : decide (qcR < (l1.length : Int)) = false := decide_eq_false c41; clear c41
          by_cases c66 : 0 ≤ (qdU.length : Int)
          ·
           rw [if_pos c66] at H; have c66b0 := eq_true c66; have c66b1 : decide (0 ≤ (qdU.length : Int)) = true := decide_eq_true c66; clear c66
           by_cases c67 : (qdU.length : Int) ≤ (qdU.length : Int)
           ·
            rw [if_pos c67] at H; have c67b0 := eq_true c67; have c67b1 : decide ((qdU.length : Int) ≤ (qdU.length : Int)) = true := decide_eq_true c67; clear c67; obtain ⟨y182, qlq⟩ : ∃ y_ : List Int, y_ = (qdU.take ((qdU.length : Int) : Int).toNat) := ⟨_, rfl⟩
            replace H : (some (y182, 0)) = some (r1, r2) := by first | (rw [qlq]; with_reducible exact H) | (have H2_ := (Option.bind_some _ _).symm.trans H; rw [qlq]; with_reducible exact H2_) | (have H2_ := (Option.bind_some _ _).symm.trans H; with_reducible exact H2_) | with_reducible exact H | (rw [qlq]; exact H) | exact H
            have qrm := qaa.mk qlq; clear qlq; simp only [Option.some.injEq, Prod.mk.injEq] at H; obtain ⟨rfl, rfl⟩ := H; obtain ⟨Ao68, co68, eo68⟩ := Kd.R_slice HO_13.out; subst eo68; have q69 : ((qdU.length : Int) : Int) ≤ ((qdU.length : Int) : Int) := of_decide_eq_true (by first | (with_reducible assumption) | assumption); obtain ⟨i069, qrn, _, qu3, _⟩ := info_parts qhf; have qCk := qhS (P := Try.prog) 37 3 Try.underlying37 qrn Ao68 qdU.length co68 (Kd.R_reads' HO_13.out).2.1; have hr69 := Kd.R_take (m := ((qdU.length : Int) : Int).toNat) HO_13.out (by omega); have hy69 : y182.length = ((qdU.length : Int) : Int).toNat := (by rw [qrm.out, List.length_take]; omega); rw [← qrm.out] at hr69
            have hy70 : qdU.length = y182.length := by rw [hy69]; omega
            have HY70 := qaa.mk hy70; clear hy69 hy70 qrn qu3 HO_13; have qu4 := qaa.mk hr69; clear hr69; replace q69 := eq_true q69
            go_wp2
            go_ret2
            exact ⟨_, by first | rfl | (simp [qaC, qaB] <;> rfl) | (simp [*, qaC, qaB] <;> rfl), qp7 (by (with_reducible repeat (first | apply Kd.R_alloc | apply Kd.R_drewN | apply Kd.R_drew)); exact qu4.out) _ HY70.out, by repeat (first | (with_reducible first | exact HB.out | apply qac | apply qab | apply qag | refine qah ?_ qcD.out | refine qah ?_ qcO.out | refine qah ?_ qfr.out) | exact HB.out)⟩
           rw [if_neg c67] at H
           exact absurd H (by simp)
          rw [if_neg c66] at H
          exact absurd H (by simp)
       replace c32 := Bool.eq_false_iff.mpr c32; subst c32
       have H1 : (some (([] : List Int), 92)) = some (r1, r2) := by rw [if_neg (show ¬ (false = true) by decide)] at H; exact H
       clear H; have H := H1; clear H1; simp only [Option.some.injEq, Prod.mk.injEq] at H; obtain ⟨rfl, rfl⟩ := H
       go_wp2
       go_ret2
       exact ⟨_, by first | rfl | (simp [qaC, qaB] <;> rfl) | (simp [*, qaC, qaB] <;> rfl), (by first | exact Kd.V_nil _ _ _ _ _ | (show Kd.V _ _ _ _ _ (.slice none 0 0) []; exact Kd.V_nil _ _ _ _ _)), by repeat (first | (with_reducible first | exact HB.out | apply qac | apply qab | apply qag | refine qah ?_ qcD.out | refine qah ?_ qcO.out) | exact HB.out)⟩
end Go.Proofs.Ytmhomdohhihlcaa.P
namespace Go.Proofs.Ytmhomdohhihlcaa.P
open Go.RowKit Go.Proofs.YtmhomdohhihlcaaW.PrintWords Go.Proofs.YtmhomdohhihlcaaW.PrintLast Go.Proofs.YtmhomdohhihlcaaW.PrintMore
attribute [local go_sem] qbT qbR qb7 qb6 qbH qbG qbS qbU
def qbj.l0 : Nat → List Int → List Int → Int → Option (Bool)
 | 0, _, _, _ => none
 | k + 1, x0, x1, x5 => if x5 < (x0.length : Int) then (if 0 ≤ x5 then (if x5 < (x1.length : Int) then (if (rd x0 x5) = (rd x1 x5) then (qbj.l0 k x0 x1 (wrap64 (x5 + 1))) else (some false)) else (none)) else (none)) else (some true)
def qbj.f (k : Nat) (l0 : List Int) (l1 : List Int) : Option (Bool) := if (l0.length : Int) = (l1.length : Int) then (qbj.l0 k l0 l1 0) else (some false)
set_option maxHeartbeats 8000000 in
set_option maxRecDepth 100000 in
theorem qbj.calls (k : Nat) (A0 : Option Addr) (c0 : Nat) (l0 : List Int) (A1 : Option Addr) (c1 : Nat) (l1 : List Int) (r : Bool) (w : World) (hr0 : Kd.C (Kd.int .i64) w A0 l0.length l0) (hc0 : l0.length ≤ c0) (hr1 : Kd.C (Kd.int .i64) w A1 l1.length l1) (hc1 : l1.length ≤ c1) (h : qbj.f k l0 l1 = some r) :
  Calls Try.prog 27 #[.slice A0 l0.length c0, .slice A1 l1.length c1] w fun e w' => e = .returned (.bool r) ∧ qbn w w' := by
 have HR0 := qaa.mk hr0
 have HC0 := qaa.mk hc0
 clear hr0 hc0
 have HR1 := qaa.mk hr1
 have HC1 := qaa.mk hc1
 clear hr1 hc1
 have H : (if (l0.length : Int) = (l1.length : Int) then (qbj.l0 k l0 l1 0) else (some false)) = some r := h
 clear h
 by_cases c3 : (l0.length : Int) = (l1.length : Int)
 ·
  rw [if_pos c3] at H
  have c3b0 : ((l0.length : Int) == (l1.length : Int)) = true := beq_iff_eq.mpr c3
  have c3b1 : ((l0.length : Int) != (l1.length : Int)) = false := bne_eq_false_iff_eq.mpr c3
  have c3b2 : (l0.length == l1.length) = true := by first | simpa using c3 | (simp at c3 ⊢; omega)
  clear c3
  have H' := qaa.mk H
  clear H
  go_enter Try.func27, Try.ntmps27
  go_wp2
  repeat (go_quiet (fail); try go_wp2)
  go_loopg [5] k (fun kq v5 w' => ∃ (x5_1 : Int), v5 = .int .i64 x5_1 ∧ qaa (qbj.l0 kq l0 l1 x5_1 = some r) ∧ qaa (kq ≤ k) ∧ qbn w w')
  case atStart => exact ⟨(0), (by first | rfl | (simp; done) | (simp [*]; done)), H', ⟨Nat.le_refl _⟩, by repeat (first | exact qbn.refl _ | apply qbn.step)⟩
  case round =>
   clear H'
   try clear c1
   try clear c2
   try clear p2
   try clear c3
   try clear c3b0
   try clear c3b1
   try clear c3b2
   obtain ⟨x5_1, rfl, HA, HK1, ⟨m1, rfl⟩⟩ := hrel
   cases gk with
   | zero => exact absurd HA.out (by simp [qbj.l0])
   | succ k1 =>
    have H := HA.out; clear HA; simp only [qbj.l0] at H
    by_cases c4 : x5_1 < (l0.length : Int)
    ·
     rw [if_pos c4] at H; have c4b0 : decide (x5_1 < (l0.length : Int)) = true := decide_eq_true c4; clear c4
     by_cases c5 : 0 ≤ x5_1
     ·
      rw [if_pos c5] at H; have c5b0 : decide (0 ≤ x5_1) = true := decide_eq_true c5; clear c5
      by_cases c6 : x5_1 < (l1.length : Int)
      ·
       rw [if_pos c6] at H; have c6b0 : decide (x5_1 < (l1.length : Int)) = true := decide_eq_true c6; clear c6
       by_cases c7 : (rd l0 x5_1) = (rd l1 x5_1)
       ·
        rw [if_pos c7] at H; have c7b0 : ((rd l0 x5_1) == (rd l1 x5_1)) = true := beq_iff_eq.mpr c7; have c7b1 : ((rd l0 x5_1) != (rd l1 x5_1)) = false := bne_eq_false_iff_eq.mpr c7; clear c7; have H' := qaa.mk H; clear H; have p185 : 0 ≤ (x5_1 : Int) := of_decide_eq_true (by first | (with_reducible assumption) | assumption); have q185 : x5_1 < (l0.length : Int) := of_decide_eq_true (by first | (with_reducible assumption) | assumption); obtain ⟨qu5, e185, qtc⟩ := Kd.at_int HR0.out x5_1 p185 q185; cases e185; replace p185 := eq_true p185; replace q185 := eq_true q185; have p186 : 0 ≤ (x5_1 : Int) := of_decide_eq_true (by first | (with_reducible assumption) | assumption); have q186 : x5_1 < (l1.length : Int) := of_decide_eq_true (by first | (with_reducible assumption) | assumption); obtain ⟨qu6, e186, qtd⟩ := Kd.at_int HR1.out x5_1 p186 q186; cases e186; replace p186 := eq_true p186; replace q186 := eq_true q186
        go_wp2
        repeat (go_quiet (fail); try go_wp2)
        go_roundg k1
        case measure => have := HK1.out; omega
        case rel => exact ⟨(wrap64 (x5_1 + 1)), (by first | rfl | (simp; done) | (simp [*]; done)), H', ⟨by have := HK1.out; omega⟩, by repeat (first | exact qbn.refl _ | apply qbn.step)⟩
       rw [if_neg c7] at H; have c7b0 : ((rd l0 x5_1) == (rd l1 x5_1)) = false := beq_eq_false_iff_ne.mpr c7; have c7b1 : ((rd l0 x5_1) != (rd l1 x5_1)) = true := bne_iff_ne.mpr c7; obtain rfl := Option.some.inj H; have p185 : 0 ≤ (x5_1 : Int) := of_decide_eq_true (by first | (with_reducible assumption) | assumption); have q185 : x5_1 < (l0.length : Int) := of_decide_eq_true (by first | (with_reducible assumption) | assumption); obtain ⟨qu5, e185, qtc⟩ := Kd.at_int HR0.out x5_1 p185 q185; cases e185; replace p185 := eq_true p185; replace q185 := eq_true q185; have p186 : 0 ≤ (x5_1 : Int) := of_decide_eq_true (by first | (with_reducible assumption) | assumption); have q186 : x5_1 < (l1.length : Int) := of_decide_eq_true (by first | (with_reducible assumption) | assumption); obtain ⟨qu6, e186, qtd⟩ := Kd.at_int HR1.out x5_1 p186 q186; cases e186; replace p186 := eq_true p186; replace q186 := eq_true q186
       go_wp2
       repeat (go_quiet (fail); try go_wp2)
       go_ret
       exact ⟨by first | rfl | (simp; done) | (simp [*]; done), by repeat (first | exact qbn.refl _ | apply qbn.step)⟩
      rw [if_neg c6] at H
      exact absurd H (by simp)
     rw [if_neg c5] at H
     exact absurd H (by simp)
    rw [if_neg c4] at H; have c4b0 : decide (x5_1 < (l0.length : Int)) = false := decide_eq_false c4; clear c4; obtain rfl := Option.some.inj H
    go_wp2
    repeat (go_quiet (fail); try go_wp2)
    go_ret
    exact ⟨by first | rfl | (simp; done) | (simp [*]; done), by repeat (first | exact qbn.refl _ | apply qbn.step)⟩
 rw [if_neg c3] at H
 have c3b0 : ((l0.length : Int) == (l1.length : Int)) = false := beq_eq_false_iff_ne.mpr c3
 have c3b1 : ((l0.length : Int) != (l1.length : Int)) = true := bne_iff_ne.mpr c3
 have c3b2 : (l0.length == l1.length) = false := by first | simpa using c3 | (simp at c3 ⊢; omega)
 obtain rfl := Option.some.inj H
 go_enter Try.func27, Try.ntmps27
 go_wp2
 repeat (go_quiet (fail); try go_wp2)
 go_ret
 exact ⟨by first | rfl | (simp; done) | (simp [*]; done), by repeat (first | exact qbn.refl _ | apply qbn.step)⟩
end Go.Proofs.Ytmhomdohhihlcaa.P
namespace Go.Proofs.Ytmhomdohhihlcaa.P
open Go.RowKit Go.Proofs.YtmhomdohhihlcaaW.PrintWords Go.Proofs.YtmhomdohhihlcaaW.PrintLast Go.Proofs.YtmhomdohhihlcaaW.PrintMore
attribute [local go_sem] qbT qbR qb7 qb6 qbH qbG qbS qbU
def qaG.f (a0 : Int) (a1 : Int) (a2 : Int) : Option (Bool) := if a1 ≤ a0 then (some (decide (a0 ≤ a2))) else (some false)
set_option maxHeartbeats 8000000 in
set_option maxRecDepth 100000 in
theorem qaG.calls (a0 : Int) (a1 : Int) (a2 : Int) (r : Bool) (w : World) (h : qaG.f a0 a1 a2 = some r) :
  Calls Try.prog 34 #[.int .i64 a0, .int .i64 a1, .int .i64 a2] w fun e w' => e = .returned (.bool r) ∧ qbn w w' := by
 have H : (if a1 ≤ a0 then (some (decide (a0 ≤ a2))) else (some false)) = some r := h
 clear h
 by_cases c4 : a1 ≤ a0
 ·
  rw [if_pos c4] at H
  have c4b0 : decide (a1 ≤ a0) = true := decide_eq_true c4
  clear c4
  obtain rfl := Option.some.inj H
  go_enter Try.func34, Try.ntmps34
  go_wp2
  go_ret
  exact ⟨by first | rfl | (simp; done) | (simp [*]; done), by repeat (first | exact qbn.refl _ | apply qbn.step)⟩
 rw [if_neg c4] at H
 have c4b0 : decide (a1 ≤ a0) = false := decide_eq_false c4
 clear c4
 obtain rfl := Option.some.inj H
 go_enter Try.func34, Try.ntmps34
 go_wp2
 go_ret
 exact ⟨by first | rfl | (simp; done) | (simp [*]; done), by repeat (first | exact qbn.refl _ | apply qbn.step)⟩
end Go.Proofs.Ytmhomdohhihlcaa.P
namespace Go.Proofs.Ytmhomdohhihlcaa.P
open Go.RowKit Go.Proofs.YtmhomdohhihlcaaW.PrintWords Go.Proofs.YtmhomdohhihlcaaW.PrintLast Go.Proofs.YtmhomdohhihlcaaW.PrintMore
attribute [local go_sem] qbT qbR qb7 qb6 qbH qbG qbS qbU
mutual
def qas.j0 : Nat → Int → Bool → List Int → List Int → List Int → Int → Int → Option (Bool)
 | 0, _, _, _, _, _, _, _ => none
 | k + 1, x3, x4, qf0, qf1, qf2, qg7, qg8 => qas.l0 k x3 x4 0 qf0 qf1 qf2 qg7 qg8
def qas.l0 : Nat → Int → Bool → Int → List Int → List Int → List Int → Int → Int → Option (Bool)
 | 0, _, _, _, _, _, _, _, _ => none
 | k + 1, x3, x4, x5, qf0, qf1, qf2, qg7, qg8 => if x4 = true then (qas.j2 k x3 x4 x5 (decide (x5 < x3)) qf0 qf1 qf2 qg7 qg8) else (qas.j2 k x3 x4 x5 false qf0 qf1 qf2 qg7 qg8)
def qas.j2 : Nat → Int → Bool → Int → Bool → List Int → List Int → List Int → Int → Int → Option (Bool)
 | 0, _, _, _, _, _, _, _, _, _ => none
 | k + 1, x3, x4, x5, x42, qf0, qf1, qf2, qg7, qg8 => if x42 = true then (if 0 ≤ x5 then (if x5 < (qf0.length : Int) then ((qaG.f (rd qf0 x5) 0 100000).bind fun t418 => (if t418 = true then (if x5 < (qf1.length : Int) then ((qaG.f (rd qf1 x5) 0 1000).bind fun t420 => (if t420 = true then (if x5 < (qf2.length : Int) then ((qaG.f (rd qf2 x5) 0 100).bind fun t422 => (qas.l0 k x3 t422 (wrap64 (x5 + 1)) qf0 qf1 qf2 qg7 qg8)) else (none)) else (qas.l0 k x3 false (wrap64 (x5 + 1)) qf0 qf1 qf2 qg7 qg8))) else (none)) else (qas.l0 k x3 false (wrap64 (x5 + 1)) qf0 qf1 qf2 qg7 qg8))) else (none)) else (none)) else (some x4)
end
def qas.f (k : Nat) (l0_0 : List Int) (l0_1 : List Int) (l0_2 : List Int) (a0_3 : Int) (a0_4 : Int) : Option (Bool) := (qaG.f (l0_0.length : Int) 1 6).bind fun t414 => (if t414 = true then (if (l0_1.length : Int) = (l0_0.length : Int) then (if (l0_2.length : Int) = (l0_0.length : Int) then ((qaG.f a0_3 0 100000000).bind fun t415 => (if t415 = true then ((qaG.f a0_4 0 (wrap64 ((l0_0.length : Int) - 1))).bind fun t416 => (qas.j0 k (l0_0.length : Int) t416 l0_0 l0_1 l0_2 a0_3 a0_4)) else (qas.j0 k (l0_0.length : Int) false l0_0 l0_1 l0_2 a0_3 a0_4))) else (qas.j0 k (l0_0.length : Int) false l0_0 l0_1 l0_2 a0_3 a0_4)) else (qas.j0 k (l0_0.length : Int) false l0_0 l0_1 l0_2 a0_3 a0_4)) else (qas.j0 k (l0_0.length : Int) false l0_0 l0_1 l0_2 a0_3 a0_4))
set_option maxHeartbeats 8000000 in
set_option maxRecDepth 100000 in
theorem qas.calls (k : Nat) (A0_0 : Option Addr) (c0_0 : Nat) (l0_0 : List Int) (A0_1 : Option Addr) (c0_1 : Nat) (l0_1 : List Int) (A0_2 : Option Addr) (c0_2 : Nat) (l0_2 : List Int) (a0_3 : Int) (a0_4 : Int) (r : Bool) (w : World) (qcQ : Kd.C (Kd.int .i64) w A0_0 l0_0.length l0_0) (qcV : l0_0.length ≤ c0_0) (qcH : Kd.C (Kd.int .i64) w A0_1 l0_1.length l0_1) (qcL : l0_1.length ≤ c0_1) (qcI : Kd.C (Kd.int .i64) w A0_2 l0_2.length l0_2) (qcM : l0_2.length ≤ c0_2) (h : qas.f k l0_0 l0_1 l0_2 a0_3 a0_4 = some r) :
  Calls Try.prog 79 #[.agg #[.slice A0_0 l0_0.length c0_0, .slice A0_1 l0_1.length c0_1, .slice A0_2 l0_2.length c0_2, .int .i64 a0_3, .int .i64 a0_4]] w fun e w' => e = .returned (.bool r) ∧ Below w.heap.size w w' := by
 have hu39 := Try.underlying39
 have qb9 := qaa.mk qcQ
 have qcx := qaa.mk qcV
 clear qcQ qcV
 have qb2 := qaa.mk qcH
 have qcj := qaa.mk qcL
 clear qcH qcL
 have qb8 := qaa.mk qcI
 have qck := qaa.mk qcM
 clear qcI qcM
 have HB := qaa.mk (Below.refl w.heap.size w)
 have H : ((qaG.f (l0_0.length : Int) 1 6).bind fun t414 => (if t414 = true then (if (l0_1.length : Int) = (l0_0.length : Int) then (if (l0_2.length : Int) = (l0_0.length : Int) then ((qaG.f a0_3 0 100000000).bind fun t415 => (if t415 = true then ((qaG.f a0_4 0 (wrap64 ((l0_0.length : Int) - 1))).bind fun t416 => (qas.j0 k (l0_0.length : Int) t416 l0_0 l0_1 l0_2 a0_3 a0_4)) else (qas.j0 k (l0_0.length : Int) false l0_0 l0_1 l0_2 a0_3 a0_4))) else (qas.j0 k (l0_0.length : Int) false l0_0 l0_1 l0_2 a0_3 a0_4)) else (qas.j0 k (l0_0.length : Int) false l0_0 l0_1 l0_2 a0_3 a0_4)) else (qas.j0 k (l0_0.length : Int) false l0_0 l0_1 l0_2 a0_3 a0_4))) = some r := h
 clear h
 have HC2 := qaa.mk H
 clear H
 go_enter Try.func79, Try.ntmps79
 go_upto_region 2 with (first | ((with_reducible refine qaN (N := 1) rfl ?_); (try (refine qdG (by rfl) ?_; dsimp only)); refine qba ?hg (N := 1) ?hd (cs := #[.slice A0_0 l0_0.length c0_0, .slice A0_1 l0_1.length c0_1, .slice A0_2 l0_2.length c0_2, .int .i64 a0_3, .int .i64 a0_4]) (t := 39) ?hr ?_; (case hd => rfl); (case hg => rfl); (case hr => first | (go_simp; done) | (go_simp; rfl)); intro qcE hg w3 hbox hb; have n0_ := qaa.mk (qap (by repeat (first | (with_reducible first | exact HB.out | apply qac | apply qab | apply qag) | exact HB.out)) hb); have n1_ := qaa.mk (hbox); have n2_ := qaa.mk ((by rw [hg]; exact (qal (by repeat (first | (with_reducible first | exact HB.out | apply qac | apply qab | apply qag) | exact HB.out))) : w.heap.size ≤ qcE)); have n3_ := qaa.mk ((by rw [hg]; exact (qal (by repeat (first | (with_reducible first | exact HB.out | apply qac | apply qab | apply qag) | exact HB.out))) : w.heap.size ≤ qcE)); clear HB; have HB := n0_; have qbh := n1_; have qDl := n2_; have qgM := n3_; clear n0_ n1_ n2_ n3_; clear hb hbox hg; have qdV : w3.cell? ⟨qcE, 0, none⟩ = some (.slice A0_0 l0_0.length c0_0) := (qaf qbh.out 0).trans rfl; have qdW : w3.cell? ⟨qcE, 1, none⟩ = some (.slice A0_1 l0_1.length c0_1) := (qaf qbh.out 1).trans rfl; have qd6 : w3.cell? ⟨qcE, 2, none⟩ = some (.slice A0_2 l0_2.length c0_2) := (qaf qbh.out 2).trans rfl; have qiC : w3.cell? ⟨qcE, 3, none⟩ = some (.int .i64 a0_3) := (qaf qbh.out 3).trans rfl; have qiD : w3.cell? ⟨qcE, 4, none⟩ = some (.int .i64 a0_4) := (qaf qbh.out 4).trans rfl; have qdX := qaj qbh.out 0; have qdY := qaj qbh.out 1; have qd7 := qaj qbh.out 2; have qiE := qaj qbh.out 3; have qiF := qaj qbh.out 4))
 (try simp only [Act.put, List.setIfInBounds_toArray, List.set_cons_zero, List.set_cons_succ])
 go_cut [4] (fun v4 wc => ∃ (kq : Nat) (x4_1 : Bool), v4 = .bool x4_1 ∧ qaa (qas.j0 kq (l0_0.length : Int) x4_1 l0_0 l0_1 l0_2 a0_3 a0_4 = some r) ∧ qaa (kq ≤ k) ∧ qaa (wc.heap[qcE]? = some (.cells #[(.slice A0_0 l0_0.length c0_0), (.slice A0_1 l0_1.length c0_1), (.slice A0_2 l0_2.length c0_2), .int .i64 a0_3, .int .i64 a0_4] 39 (0, 0))) ∧ qaa (Below w.heap.size w wc))
 case first =>
  have H := HC2.out
  clear HC2
  replace H := Option.bind_eq_some_iff.mp H
  obtain ⟨t414, A50, H⟩ := H
  replace H : (if t414 = true then (if (l0_1.length : Int) = (l0_0.length : Int) then (if (l0_2.length : Int) = (l0_0.length : Int) then ((qaG.f a0_3 0 100000000).bind fun t415 => (if t415 = true then ((qaG.f a0_4 0 (wrap64 ((l0_0.length : Int) - 1))).bind fun t416 => (qas.j0 k (l0_0.length : Int) t416 l0_0 l0_1 l0_2 a0_3 a0_4)) else (qas.j0 k (l0_0.length : Int) false l0_0 l0_1 l0_2 a0_3 a0_4))) else (qas.j0 k (l0_0.length : Int) false l0_0 l0_1 l0_2 a0_3 a0_4)) else (qas.j0 k (l0_0.length : Int) false l0_0 l0_1 l0_2 a0_3 a0_4)) else (qas.j0 k (l0_0.length : Int) false l0_0 l0_1 l0_2 a0_3 a0_4)) = some r := H
  have A5 := qaa.mk A50
  clear A50
  by_cases c6 : t414 = true
  ·
   subst c6
   have H1 : (if (l0_1.length : Int) = (l0_0.length : Int) then (if (l0_2.length : Int) = (l0_0.length : Int) then ((qaG.f a0_3 0 100000000).bind fun t415 => (if t415 = true then ((qaG.f a0_4 0 (wrap64 ((l0_0.length : Int) - 1))).bind fun t416 => (qas.j0 k (l0_0.length : Int) t416 l0_0 l0_1 l0_2 a0_3 a0_4)) else (qas.j0 k (l0_0.length : Int) false l0_0 l0_1 l0_2 a0_3 a0_4))) else (qas.j0 k (l0_0.length : Int) false l0_0 l0_1 l0_2 a0_3 a0_4)) else (qas.j0 k (l0_0.length : Int) false l0_0 l0_1 l0_2 a0_3 a0_4)) = some r := by rw [if_pos rfl] at H; exact H
   clear H
   have H := H1
   clear H1
   by_cases c7 : (l0_1.length : Int) = (l0_0.length : Int)
   ·
    rw [if_pos c7] at H; have c7b0 : ((l0_1.length : Int) == (l0_0.length : Int)) = true := beq_iff_eq.mpr c7; have c7b1 : ((l0_1.length : Int) != (l0_0.length : Int)) = false := bne_eq_false_iff_eq.mpr c7
    have c7b2 : (l0_1.length == l0_0.length) = true := by first | simpa using c7 | (simp at c7 ⊢; omega)
    clear c7
    (first | rw [c7b0] | (simp only [qaQ, qaU]; rw [c7b0]) | skip)
    by_cases c8 : (l0_2.length : Int) = (l0_0.length : Int)
    ·
     rw [if_pos c8] at H; have c8b0 : ((l0_2.length : Int) == (l0_0.length : Int)) = true := beq_iff_eq.mpr c8; have c8b1 : ((l0_2.length : Int) != (l0_0.length : Int)) = false := bne_eq_false_iff_eq.mpr c8
     have c8b2 : (l0_2.length == l0_0.length) = true := by first | simpa using c8 | (simp at c8 ⊢; omega)
     clear c8; replace H := Option.bind_eq_some_iff.mp H; obtain ⟨t415, A90, H⟩ := H; replace H : (if t415 = true then ((qaG.f a0_4 0 (wrap64 ((l0_0.length : Int) - 1))).bind fun t416 => (qas.j0 k (l0_0.length : Int) t416 l0_0 l0_1 l0_2 a0_3 a0_4)) else (qas.j0 k (l0_0.length : Int) false l0_0 l0_1 l0_2 a0_3 a0_4)) = some r := H; have A9 := qaa.mk A90; clear A90
     by_cases c10 : t415 = true
     ·
      subst c10
      have H1 : ((qaG.f a0_4 0 (wrap64 ((l0_0.length : Int) - 1))).bind fun t416 => (qas.j0 k (l0_0.length : Int) t416 l0_0 l0_1 l0_2 a0_3 a0_4)) = some r := by rw [if_pos rfl] at H; exact H
      clear H; have H := H1; clear H1; replace H := Option.bind_eq_some_iff.mp H; obtain ⟨t416, A110, H⟩ := H; replace H : (qas.j0 k (l0_0.length : Int) t416 l0_0 l0_1 l0_2 a0_3 a0_4) = some r := H; have A11 := qaa.mk A110; clear A110; have H' := qaa.mk H; clear H
      go_wp2_with (first | ((with_reducible refine qaz (f := 34) rfl ?_); refine qbd (some 10) rfl rfl Try.func34 (by kernel_rfl) rfl #[.int .i64 (l0_0.length : Int), .int .i64 1, .int .i64 6] rfl (by (try simp only [List.map_toArray, List.map_cons, List.map_nil]); first | done | rfl | (simp only [List.length_drop, List.length_take]; rfl)) ?_; (with_reducible refine (qaG.calls (l0_0.length : Int) 1 6 true _ A5.out).mono ?_); rintro e w' ⟨rfl, ⟨nd, rfl⟩⟩; refine ⟨_, rfl, ?_⟩; have qgt : w3.cell? ⟨qcE, 0, none⟩ = some (.slice A0_0 l0_0.length c0_0) := (qaf qbh.out 0).trans rfl; have qgu : w3.cell? ⟨qcE, 1, none⟩ = some (.slice A0_1 l0_1.length c0_1) := (qaf qbh.out 1).trans rfl; have qgW : w3.cell? ⟨qcE, 2, none⟩ = some (.slice A0_2 l0_2.length c0_2) := (qaf qbh.out 2).trans rfl; have qhp : w3.cell? ⟨qcE, 3, none⟩ = some (.int .i64 a0_3) := (qaf qbh.out 3).trans rfl; have qhq : w3.cell? ⟨qcE, 4, none⟩ = some (.int .i64 a0_4) := (qaf qbh.out 4).trans rfl; have qgv := qaj qbh.out 0; have qgw := qaj qbh.out 1; have qgX := qaj qbh.out 2; have qhr := qaj qbh.out 3; have qhs := qaj qbh.out 4) | (go_at_call 34; (with_reducible refine (qaG.calls a0_3 0 100000000 true _ A9.out).mono ?_); rintro e w' ⟨rfl, ⟨nd, rfl⟩⟩) | (go_at_call 34; (with_reducible refine (qaG.calls a0_4 0 (wrap64 ((l0_0.length : Int) - 1)) t416 _ A11.out).mono ?_); rintro e w' ⟨rfl, ⟨nd, rfl⟩⟩))
      go_meet
      case rel => exact ⟨_, (t416), (by first | rfl | (simp; done) | (simp [*]; done)), H', ⟨by first | omega | exact Nat.le_refl _⟩, ⟨by (with_reducible repeat (first | refine qae ?_ _ | refine qai ?_ | refine qad ?_ _)); exact qbh.out⟩, ⟨by repeat (first | (with_reducible first | exact HB.out | apply qac | apply qab | apply qag | refine qah ?_ qgM.out) | exact HB.out)⟩⟩
     replace c10 := Bool.eq_false_iff.mpr c10; subst c10
     have H1 : (qas.j0 k (l0_0.length : Int) false l0_0 l0_1 l0_2 a0_3 a0_4) = some r := by rw [if_neg (show ¬ (false = true) by decide)] at H; exact H
     clear H; have H := H1; clear H1; have H' := qaa.mk H; clear H
     go_wp2_with (first | ((with_reducible refine qaz (f := 34) rfl ?_); refine qbd (some 10) rfl rfl Try.func34 (by kernel_rfl) rfl #[.int .i64 (l0_0.length : Int), .int .i64 1, .int .i64 6] rfl (by (try simp only [List.map_toArray, List.map_cons, List.map_nil]); first | done | rfl | (simp only [List.length_drop, List.length_take]; rfl)) ?_; (with_reducible refine (qaG.calls (l0_0.length : Int) 1 6 true _ A5.out).mono ?_); rintro e w' ⟨rfl, ⟨nd, rfl⟩⟩; refine ⟨_, rfl, ?_⟩; have qeD : w3.cell? ⟨qcE, 0, none⟩ = some (.slice A0_0 l0_0.length c0_0) := (qaf qbh.out 0).trans rfl; have qeE : w3.cell? ⟨qcE, 1, none⟩ = some (.slice A0_1 l0_1.length c0_1) := (qaf qbh.out 1).trans rfl; have qeF : w3.cell? ⟨qcE, 2, none⟩ = some (.slice A0_2 l0_2.length c0_2) := (qaf qbh.out 2).trans rfl; have qgY : w3.cell? ⟨qcE, 3, none⟩ = some (.int .i64 a0_3) := (qaf qbh.out 3).trans rfl; have qgZ : w3.cell? ⟨qcE, 4, none⟩ = some (.int .i64 a0_4) := (qaf qbh.out 4).trans rfl; have qeG := qaj qbh.out 0; have qeH := qaj qbh.out 1; have qeI := qaj qbh.out 2; have qg0 := qaj qbh.out 3; have qg1 := qaj qbh.out 4) | (go_at_call 34; (with_reducible refine (qaG.calls a0_3 0 100000000 false _ A9.out).mono ?_); rintro e w' ⟨rfl, ⟨nd, rfl⟩⟩))
     go_meet
     case rel => exact ⟨_, (false), (by first | rfl | (simp; done) | (simp [*]; done)), H', ⟨by first | omega | exact Nat.le_refl _⟩, ⟨by (with_reducible repeat (first | refine qae ?_ _ | refine qai ?_ | refine qad ?_ _)); exact qbh.out⟩, ⟨by repeat (first | (with_reducible first | exact HB.out | apply qac | apply qab | apply qag | refine qah ?_ qgM.out) | exact HB.out)⟩⟩
    rw [if_neg c8] at H; have c8b0 : ((l0_2.length : Int) == (l0_0.length : Int)) = false := beq_eq_false_iff_ne.mpr c8; have c8b1 : ((l0_2.length : Int) != (l0_0.length : Int)) = true := bne_iff_ne.mpr c8
    have c8b2 : (l0_2.length == l0_0.length) = false := by first | simpa using c8 | (simp at c8 ⊢; omega)
    have H' := qaa.mk H; clear H
    go_wp2_with (first | ((with_reducible refine qaz (f := 34) rfl ?_); refine qbd (some 10) rfl rfl Try.func34 (by kernel_rfl) rfl #[.int .i64 (l0_0.length : Int), .int .i64 1, .int .i64 6] rfl (by (try simp only [List.map_toArray, List.map_cons, List.map_nil]); first | done | rfl | (simp only [List.length_drop, List.length_take]; rfl)) ?_; (with_reducible refine (qaG.calls (l0_0.length : Int) 1 6 true _ A5.out).mono ?_); rintro e w' ⟨rfl, ⟨nd, rfl⟩⟩; refine ⟨_, rfl, ?_⟩; have qeJ : w3.cell? ⟨qcE, 0, none⟩ = some (.slice A0_0 l0_0.length c0_0) := (qaf qbh.out 0).trans rfl; have qeK : w3.cell? ⟨qcE, 1, none⟩ = some (.slice A0_1 l0_1.length c0_1) := (qaf qbh.out 1).trans rfl; have qeL : w3.cell? ⟨qcE, 2, none⟩ = some (.slice A0_2 l0_2.length c0_2) := (qaf qbh.out 2).trans rfl; have qg2 : w3.cell? ⟨qcE, 3, none⟩ = some (.int .i64 a0_3) := (qaf qbh.out 3).trans rfl; have qg3 : w3.cell? ⟨qcE, 4, none⟩ = some (.int .i64 a0_4) := (qaf qbh.out 4).trans rfl; have qeM := qaj qbh.out 0; have qeN := qaj qbh.out 1; have qeO := qaj qbh.out 2; have qg4 := qaj qbh.out 3; have qg5 := qaj qbh.out 4))
    go_meet
    case rel => exact ⟨_, (false), (by first | rfl | (simp; done) | (simp [*]; done)), H', ⟨by first | omega | exact Nat.le_refl _⟩, ⟨by (with_reducible repeat (first | refine qae ?_ _ | refine qai ?_ | refine qad ?_ _)); exact qbh.out⟩, ⟨by repeat (first | (with_reducible first | exact HB.out | apply qac | apply qab | apply qag | refine qah ?_ qgM.out) | exact HB.out)⟩⟩
   rw [if_neg c7] at H
   have c7b0 : ((l0_1.length : Int) == (l0_0.length : Int)) = false := beq_eq_false_iff_ne.mpr c7
   have c7b1 : ((l0_1.length : Int) != (l0_0.length : Int)) = true := bne_iff_ne.mpr c7
   have c7b2 : (l0_1.length == l0_0.length) = false := by first | simpa using c7 | (simp at c7 ⊢; omega)
   (first | rw [c7b0] | (simp only [qaQ, qaU]; rw [c7b0]) | skip)
   have H' := qaa.mk H
   clear H
   go_wp2_with (first | ((with_reducible refine qaz (f := 34) rfl ?_); refine qbd (some 10) rfl rfl Try.func34 (by kernel_rfl) rfl #[.int .i64 (l0_0.length : Int), .int .i64 1, .int .i64 6] rfl (by (try simp only [List.map_toArray, List.map_cons, List.map_nil]); first | done | rfl | (simp only [List.length_drop, List.length_take]; rfl)) ?_; (with_reducible refine (qaG.calls (l0_0.length : Int) 1 6 true _ A5.out).mono ?_); rintro e w' ⟨rfl, ⟨nd, rfl⟩⟩; refine ⟨_, rfl, ?_⟩; have qem : w3.cell? ⟨qcE, 0, none⟩ = some (.slice A0_0 l0_0.length c0_0) := (qaf qbh.out 0).trans rfl; have qen : w3.cell? ⟨qcE, 1, none⟩ = some (.slice A0_1 l0_1.length c0_1) := (qaf qbh.out 1).trans rfl; have qeP : w3.cell? ⟨qcE, 2, none⟩ = some (.slice A0_2 l0_2.length c0_2) := (qaf qbh.out 2).trans rfl; have qeQ : w3.cell? ⟨qcE, 3, none⟩ = some (.int .i64 a0_3) := (qaf qbh.out 3).trans rfl; have qeR : w3.cell? ⟨qcE, 4, none⟩ = some (.int .i64 a0_4) := (qaf qbh.out 4).trans rfl; have qeo := qaj qbh.out 0; have qep := qaj qbh.out 1; have qeS := qaj qbh.out 2; have qeT := qaj qbh.out 3; have qeU := qaj qbh.out 4))
   go_meet
   case rel => exact ⟨_, (false), (by first | rfl | (simp; done) | (simp [*]; done)), H', ⟨by first | omega | exact Nat.le_refl _⟩, ⟨by (with_reducible repeat (first | refine qae ?_ _ | refine qai ?_ | refine qad ?_ _)); exact qbh.out⟩, ⟨by repeat (first | (with_reducible first | exact HB.out | apply qac | apply qab | apply qag | refine qah ?_ qgM.out) | exact HB.out)⟩⟩
  replace c6 := Bool.eq_false_iff.mpr c6
  subst c6
  have H1 : (qas.j0 k (l0_0.length : Int) false l0_0 l0_1 l0_2 a0_3 a0_4) = some r := by rw [if_neg (show ¬ (false = true) by decide)] at H; exact H
  clear H
  have H := H1
  clear H1
  have H' := qaa.mk H
  clear H
  go_wp2_with (first | ((with_reducible refine qaz (f := 34) rfl ?_); refine qbd (some 10) rfl rfl Try.func34 (by kernel_rfl) rfl #[.int .i64 (l0_0.length : Int), .int .i64 1, .int .i64 6] rfl (by (try simp only [List.map_toArray, List.map_cons, List.map_nil]); first | done | rfl | (simp only [List.length_drop, List.length_take]; rfl)) ?_; (with_reducible refine (qaG.calls (l0_0.length : Int) 1 6 false _ A5.out).mono ?_); rintro e w' ⟨rfl, ⟨nd, rfl⟩⟩; refine ⟨_, rfl, ?_⟩))
  go_meet
  case rel => exact ⟨_, (false), (by first | rfl | (simp; done) | (simp [*]; done)), H', ⟨by first | omega | exact Nat.le_refl _⟩, ⟨by (with_reducible repeat (first | refine qae ?_ _ | refine qai ?_ | refine qad ?_ _)); exact qbh.out⟩, ⟨by repeat (first | (with_reducible first | exact HB.out | apply qac | apply qab | apply qag | refine qah ?_ qgM.out) | exact HB.out)⟩⟩
 case rest =>
  clear HC2
  try clear c1
  try clear p2
  try clear c3
  try clear c6
  try clear p6
  try clear c7
  try clear c7b0
  try clear c7b1
  try clear c7b2
  try clear c8
  try clear c8b0
  try clear c8b1
  try clear c8b2
  try clear c10
  try clear qgt
  try clear qgu
  try clear qgW
  try clear qhp
  try clear qhq
  try clear qeD
  try clear qeE
  try clear qeF
  try clear qgY
  try clear qgZ
  try clear qeJ
  try clear qeK
  try clear qeL
  try clear qg2
  try clear qg3
  try clear qem
  try clear qen
  try clear qeP
  try clear qeQ
  try clear qeR
  try clear qdV
  try clear qdW
  try clear qd6
  try clear qiC
  try clear qiD
  try clear qgv
  try clear qgw
  try clear qgX
  try clear qhr
  try clear qhs
  try clear qeG
  try clear qeH
  try clear qeI
  try clear qg0
  try clear qg1
  try clear qeM
  try clear qeN
  try clear qeO
  try clear qg4
  try clear qg5
  try clear qeo
  try clear qep
  try clear qeS
  try clear qeT
  try clear qeU
  try clear qdX
  try clear qdY
  try clear qd7
  try clear qiE
  try clear qiF
  obtain ⟨kq, x4_1, rfl, HA, HJ1, qbh, HB⟩ := hcut
  cases kq with
  | zero => exact absurd HA.out (by simp [qas.j0])
  | succ kj1 =>
   have H := HA.out
   clear HA
   simp only [qas.j0] at H
   have H' := qaa.mk H
   clear H
   go_wp2
   go_loopg [4, 5] kj1 (fun kq v4 v5 w' => ∃ (x4_2 : Bool) (x5_2 : Int), v4 = .bool x4_2 ∧ v5 = .int .i64 x5_2 ∧ qaa (qas.l0 kq (l0_0.length : Int) x4_2 x5_2 l0_0 l0_1 l0_2 a0_3 a0_4 = some r) ∧ qaa (kq ≤ kj1) ∧ qaa (w'.heap[qcE]? = some (.cells #[(.slice A0_0 l0_0.length c0_0), (.slice A0_1 l0_1.length c0_1), (.slice A0_2 l0_2.length c0_2), .int .i64 a0_3, .int .i64 a0_4] 39 (0, 0))) ∧ qaa (Below w.heap.size w w'))
   case atStart => exact ⟨(x4_1), (0), (by first | rfl | (simp; done) | (simp [*]; done)), (by first | rfl | (simp; done) | (simp [*]; done)), H', ⟨Nat.le_refl _⟩, ⟨by (with_reducible repeat (first | refine qae ?_ _ | refine qai ?_ | refine qad ?_ _)); exact qbh.out⟩, ⟨by repeat (first | (with_reducible first | exact HB.out | apply qac | apply qab | apply qag | refine qah ?_ qgM.out) | exact HB.out)⟩⟩
   case round =>
    clear H'; (try clear c1); (try clear p2); (try clear c3); (try clear c6); (try clear p6); (try clear c7); (try clear c7b0); (try clear c7b1); (try clear c7b2); (try clear c8); (try clear c8b0); (try clear c8b1); (try clear c8b2); (try clear c10); (try clear qgt); (try clear qgu); (try clear qgW); (try clear qhp); (try clear qhq); (try clear qeD); (try clear qeE); (try clear qeF); (try clear qgY); (try clear qgZ); (try clear qeJ); (try clear qeK); (try clear qeL); (try clear qg2); (try clear qg3); (try clear qem); (try clear qen); (try clear qeP); (try clear qeQ); (try clear qeR); (try clear qdV); (try clear qdW); (try clear qd6); (try clear qiC); (try clear qiD); (try clear qgv); (try clear qgw); (try clear qgX); (try clear qhr); (try clear qhs); (try clear qeG); (try clear qeH); (try clear qeI); (try clear qg0); (try clear qg1); (try clear qeM); (try clear qeN); (try clear qeO); (try clear qg4); (try clear qg5); (try clear qeo); (try clear qep); (try clear qeS); (try clear qeT); (try clear qeU); (try clear qdX); (try clear qdY); (try clear qd7); (try clear qiE); (try clear qiF); (try clear p2); (try clear p6); obtain ⟨x4_2, x5_2, rfl, rfl, HA, HK2, qbh, HB⟩ := hrel
    cases gk with
    | zero => exact absurd HA.out (by simp [qas.l0])
    | succ k2 =>
     have H := HA.out; clear HA; simp only [qas.l0] at H; have HC16 := qaa.mk H; clear H
     go_upto_region 4 with (fail)
     go_cut [42] (fun v42 wc => ∃ (kq : Nat) (qlr : Bool), v42 = .bool qlr ∧ qaa (qas.j2 kq (l0_0.length : Int) x4_2 x5_2 qlr l0_0 l0_1 l0_2 a0_3 a0_4 = some r) ∧ qaa (kq ≤ k2) ∧ qaa (wc.heap[qcE]? = some (.cells #[(.slice A0_0 l0_0.length c0_0), (.slice A0_1 l0_1.length c0_1), (.slice A0_2 l0_2.length c0_2), .int .i64 a0_3, .int .i64 a0_4] 39 (0, 0))) ∧ qaa (Below w.heap.size w wc))
     case first =>
      have H := HC16.out; clear HC16
      by_cases c17 : x4_2 = true
      ·
       subst c17
       have H1 : (qas.j2 k2 (l0_0.length : Int) true x5_2 (decide (x5_2 < (l0_0.length : Int))) l0_0 l0_1 l0_2 a0_3 a0_4) = some r := by rw [if_pos rfl] at H; exact H
       clear H; have H := H1; clear H1; have H' := qaa.mk H; clear H
       go_wp2
       go_meet
       case rel => exact ⟨_, (decide (x5_2 < (l0_0.length : Int))), (by first | rfl | (simp; done) | (simp [*]; done)), H', ⟨by have := HJ1.out; have := HK2.out; first | omega | exact Nat.le_refl _⟩, ⟨by (with_reducible repeat (first | refine qae ?_ _ | refine qai ?_ | refine qad ?_ _)); exact qbh.out⟩, ⟨by repeat (first | (with_reducible first | exact HB.out | apply qac | apply qab | apply qag | refine qah ?_ qgM.out) | exact HB.out)⟩⟩
      replace c17 := Bool.eq_false_iff.mpr c17; subst c17
      have H1 : (qas.j2 k2 (l0_0.length : Int) false x5_2 false l0_0 l0_1 l0_2 a0_3 a0_4) = some r := by rw [if_neg (show ¬ (false = true) by decide)] at H; exact H
      clear H; have H := H1; clear H1; have H' := qaa.mk H; clear H
      go_wp2
      go_meet
      case rel => exact ⟨_, (false), (by first | rfl | (simp; done) | (simp [*]; done)), H', ⟨by have := HJ1.out; have := HK2.out; first | omega | exact Nat.le_refl _⟩, ⟨by (with_reducible repeat (first | refine qae ?_ _ | refine qai ?_ | refine qad ?_ _)); exact qbh.out⟩, ⟨by repeat (first | (with_reducible first | exact HB.out | apply qac | apply qab | apply qag | refine qah ?_ qgM.out) | exact HB.out)⟩⟩
     case rest =>
      clear HC16; (try clear c1); (try clear p2); (try clear c3); (try clear c6); (try clear p6); (try clear c7); (try clear c7b0); (try clear c7b1); (try clear c7b2); (try clear c8); (try clear c8b0); (try clear c8b1); (try clear c8b2); (try clear c10); (try clear c17); (try clear qgt); (try clear qgu); (try clear qgW); (try clear qhp); (try clear qhq); (try clear qeD); (try clear qeE); (try clear qeF); (try clear qgY); (try clear qgZ); (try clear qeJ); (try clear qeK); (try clear qeL); (try clear qg2); (try clear qg3); (try clear qem); (try clear qen); (try clear qeP); (try clear qeQ); (try clear qeR); (try clear qdV); (try clear qdW); (try clear qd6); (try clear qiC); (try clear qiD); (try clear qgv); (try clear qgw); (try clear qgX); (try clear qhr); (try clear qhs); (try clear qeG); (try clear qeH); (try clear qeI); (try clear qg0); (try clear qg1); (try clear qeM); (try clear qeN); (try clear qeO); (try clear qg4); (try clear qg5); (try clear qeo); (try clear qep); (try clear qeS); (try clear qeT); (try clear qeU); (try clear qdX); (try clear qdY); (try clear qd7); (try clear qiE); (try clear qiF); (try clear p2); (try clear p6); obtain ⟨kq, qlr, rfl, HA, HJ15, qbh, HB⟩ := hcut
      cases kq with
      | zero => exact absurd HA.out (by simp [qas.j2])
      | succ kj15 =>
       have H := HA.out; clear HA; simp only [qas.j2] at H
       by_cases c18 : qlr = true
       ·
        subst c18
        have H1 : (if 0 ≤ x5_2 then (if x5_2 < (l0_0.length : Int) then ((qaG.f (rd l0_0 x5_2) 0 100000).bind fun t418 => (if t418 = true then (if x5_2 < (l0_1.length : Int) then ((qaG.f (rd l0_1 x5_2) 0 1000).bind fun t420 => (if t420 = true then (if x5_2 < (l0_2.length : Int) then ((qaG.f (rd l0_2 x5_2) 0 100).bind fun t422 => (qas.l0 kj15 (l0_0.length : Int) t422 (wrap64 (x5_2 + 1)) l0_0 l0_1 l0_2 a0_3 a0_4)) else (none)) else (qas.l0 kj15 (l0_0.length : Int) false (wrap64 (x5_2 + 1)) l0_0 l0_1 l0_2 a0_3 a0_4))) else (none)) else (qas.l0 kj15 (l0_0.length : Int) false (wrap64 (x5_2 + 1)) l0_0 l0_1 l0_2 a0_3 a0_4))) else (none)) else (none)) = some r := by rw [if_pos rfl] at H; exact H
        clear H; have H := H1; clear H1
        by_cases c19 : 0 ≤ x5_2
        ·
         rw [if_pos c19] at H; have c19b0 : decide (0 ≤ x5_2) = true := decide_eq_true c19; clear c19
         by_cases c20 : x5_2 < (l0_0.length : Int)
         ·
          rw [if_pos c20] at H; have c20b0 : decide (x5_2 < (l0_0.length : Int)) = true := decide_eq_true c20; clear c20; replace H := Option.bind_eq_some_iff.mp H; obtain ⟨t418, A210, H⟩ := H; replace H : (if t418 = true then (if x5_2 < (l0_1.length : Int) then ((qaG.f (rd l0_1 x5_2) 0 1000).bind fun t420 => (if t420 = true then (if x5_2 < (l0_2.length : Int) then ((qaG.f (rd l0_2 x5_2) 0 100).bind fun t422 => (qas.l0 kj15 (l0_0.length : Int) t422 (wrap64 (x5_2 + 1)) l0_0 l0_1 l0_2 a0_3 a0_4)) else (none)) else (qas.l0 kj15 (l0_0.length : Int) false (wrap64 (x5_2 + 1)) l0_0 l0_1 l0_2 a0_3 a0_4))) else (none)) else (qas.l0 kj15 (l0_0.length : Int) false (wrap64 (x5_2 + 1)) l0_0 l0_1 l0_2 a0_3 a0_4)) = some r := H; have A21 := qaa.mk A210; clear A210
          by_cases c22 : t418 = true
          ·
           subst c22
           have H1 : (if x5_2 < (l0_1.length : Int) then ((qaG.f (rd l0_1 x5_2) 0 1000).bind fun t420 => (if t420 = true then (if x5_2 < (l0_2.length : Int) then ((qaG.f (rd l0_2 x5_2) 0 100).bind fun t422 => (qas.l0 kj15 (l0_0.length : Int) t422 (wrap64 (x5_2 + 1)) l0_0 l0_1 l0_2 a0_3 a0_4)) else (none)) else (qas.l0 kj15 (l0_0.length : Int) false (wrap64 (x5_2 + 1)) l0_0 l0_1 l0_2 a0_3 a0_4))) else (none)) = some r := by rw [if_pos rfl] at H; exact H
           clear H; have H := H1; clear H1
           by_cases c23 : x5_2 < (l0_1.length : Int)
           ·
            rw [if_pos c23] at H; have c23b0 : decide (x5_2 < (l0_1.length : Int)) = true := decide_eq_true c23; clear c23; replace H := Option.bind_eq_some_iff.mp H; obtain ⟨t420, A240, H⟩ := H; replace H : (if t420 = true then (if x5_2 < (l0_2.length : Int) then ((qaG.f (rd l0_2 x5_2) 0 100).bind fun t422 => (qas.l0 kj15 (l0_0.length : Int) t422 (wrap64 (x5_2 + 1)) l0_0 l0_1 l0_2 a0_3 a0_4)) else (none)) else (qas.l0 kj15 (l0_0.length : Int) false (wrap64 (x5_2 + 1)) l0_0 l0_1 l0_2 a0_3 a0_4)) = some r := H; have A24 := qaa.mk A240; clear A240
            by_cases c25 : t420 = true
            ·
             subst c25
             have H1 : (if x5_2 < (l0_2.length : Int) then ((qaG.f (rd l0_2 x5_2) 0 100).bind fun t422 => (qas.l0 kj15 (l0_0.length : Int) t422 (wrap64 (x5_2 + 1)) l0_0 l0_1 l0_2 a0_3 a0_4)) else (none)) = some r := by rw [if_pos rfl] at H; exact H
             clear H; have H := H1; clear H1
             by_cases c26 : x5_2 < (l0_2.length : Int)
             ·
              rw [if_pos c26] at H; have c26b0 : decide (x5_2 < (l0_2.length : Int)) = true := decide_eq_true c26; clear c26; replace H := Option.bind_eq_some_iff.mp H; obtain ⟨t422, A270, H⟩ := H; replace H : (qas.l0 kj15 (l0_0.length : Int) t422 (wrap64 (x5_2 + 1)) l0_0 l0_1 l0_2 a0_3 a0_4) = some r := H; have A27 := qaa.mk A270; clear A270; have H' := qaa.mk H; clear H; have qia : wc.cell? ⟨qcE, 0, none⟩ = some (.slice A0_0 l0_0.length c0_0) := (qaf qbh.out 0).trans rfl; have qib : wc.cell? ⟨qcE, 1, none⟩ = some (.slice A0_1 l0_1.length c0_1) := (qaf qbh.out 1).trans rfl; have qmr : wc.cell? ⟨qcE, 2, none⟩ = some (.slice A0_2 l0_2.length c0_2) := (qaf qbh.out 2).trans rfl; have qms : wc.cell? ⟨qcE, 3, none⟩ = some (.int .i64 a0_3) := (qaf qbh.out 3).trans rfl; have qmt : wc.cell? ⟨qcE, 4, none⟩ = some (.int .i64 a0_4) := (qaf qbh.out 4).trans rfl; have qic := qaj qbh.out 0; have qid := qaj qbh.out 1; have qmu := qaj qbh.out 2; have qmv := qaj qbh.out 3; have qmw := qaj qbh.out 4; have p417 : 0 ≤ (x5_2 : Int) := of_decide_eq_true (by first | (with_reducible assumption) | assumption); have q417 : x5_2 < (l0_0.length : Int) := of_decide_eq_true (by first | (with_reducible assumption) | assumption); obtain ⟨qro, e417, qfE⟩ := Kd.at_int qb9.out x5_2 p417 q417; cases e417; replace qfE := (HB.out.cell (World.block_lt_of_cell? w _ qfE)).trans qfE; replace p417 := eq_true p417; replace q417 := eq_true q417
              go_wp2_with (first | ((with_reducible refine qaz (f := 34) rfl ?_); refine qbd (some 50) rfl rfl Try.func34 (by kernel_rfl) rfl #[.int .i64 (rd l0_0 x5_2), .int .i64 0, .int .i64 100000] rfl (by (try simp only [List.map_toArray, List.map_cons, List.map_nil]); first | done | rfl | (simp only [List.length_drop, List.length_take]; rfl)) ?_; (with_reducible refine (qaG.calls (rd l0_0 x5_2) 0 100000 true _ A21.out).mono ?_); rintro e w' ⟨rfl, ⟨nd, rfl⟩⟩; refine ⟨_, rfl, ?_⟩; have p419 : 0 ≤ (x5_2 : Int) := of_decide_eq_true (by first | (with_reducible assumption) | assumption); have q419 : x5_2 < (l0_1.length : Int) := of_decide_eq_true (by first | (with_reducible assumption) | assumption); obtain ⟨qu7, e419, qhu⟩ := Kd.at_int qb2.out x5_2 p419 q419; cases e419; replace qhu := (HB.out.cell (World.block_lt_of_cell? w _ qhu)).trans qhu; replace p419 := eq_true p419; replace q419 := eq_true q419) | (go_at_call 34; (with_reducible refine (qaG.calls (rd l0_1 x5_2) 0 1000 true _ A24.out).mono ?_); rintro e w' ⟨rfl, ⟨nd, rfl⟩⟩; have p421 : 0 ≤ (x5_2 : Int) := of_decide_eq_true (by first | (with_reducible assumption) | assumption); have q421 : x5_2 < (l0_2.length : Int) := of_decide_eq_true (by first | (with_reducible assumption) | assumption); obtain ⟨qDm, e421, qmy⟩ := Kd.at_int qb8.out x5_2 p421 q421; cases e421; replace qmy := (HB.out.cell (World.block_lt_of_cell? w _ qmy)).trans qmy; replace p421 := eq_true p421; replace q421 := eq_true q421) | (go_at_call 34; (with_reducible refine (qaG.calls (rd l0_2 x5_2) 0 100 t422 _ A27.out).mono ?_); rintro e w' ⟨rfl, ⟨nd, rfl⟩⟩))
              go_roundg kj15
              case measure => have := HJ1.out; have := HK2.out; have := HJ15.out; omega
              case rel => exact ⟨(t422), (wrap64 (x5_2 + 1)), (by first | rfl | (simp; done) | (simp [*]; done)), (by first | rfl | (simp; done) | (simp [*]; done)), H', ⟨by have := HJ1.out; have := HK2.out; have := HJ15.out; omega⟩, ⟨by (with_reducible repeat (first | refine qae ?_ _ | refine qai ?_ | refine qad ?_ _)); exact qbh.out⟩, ⟨by repeat (first | (with_reducible first | exact HB.out | apply qac | apply qab | apply qag | refine qah ?_ qgM.out) | exact HB.out)⟩⟩
             rw [if_neg c26] at H
             exact absurd H (by simp)
            replace c25 := Bool.eq_false_iff.mpr c25; subst c25
            have H1 : (qas.l0 kj15 (l0_0.length : Int) false (wrap64 (x5_2 + 1)) l0_0 l0_1 l0_2 a0_3 a0_4) = some r := by rw [if_neg (show ¬ (false = true) by decide)] at H; exact H
            clear H; have H := H1; clear H1; have H' := qaa.mk H; clear H; have qow : wc.cell? ⟨qcE, 0, none⟩ = some (.slice A0_0 l0_0.length c0_0) := (qaf qbh.out 0).trans rfl; have qox : wc.cell? ⟨qcE, 1, none⟩ = some (.slice A0_1 l0_1.length c0_1) := (qaf qbh.out 1).trans rfl; have qoy : wc.cell? ⟨qcE, 2, none⟩ = some (.slice A0_2 l0_2.length c0_2) := (qaf qbh.out 2).trans rfl; have qsC : wc.cell? ⟨qcE, 3, none⟩ = some (.int .i64 a0_3) := (qaf qbh.out 3).trans rfl; have qsD : wc.cell? ⟨qcE, 4, none⟩ = some (.int .i64 a0_4) := (qaf qbh.out 4).trans rfl; have qoz := qaj qbh.out 0; have qoA := qaj qbh.out 1; have qoB := qaj qbh.out 2; have qsE := qaj qbh.out 3; have qsF := qaj qbh.out 4; have p417 : 0 ≤ (x5_2 : Int) := of_decide_eq_true (by first | (with_reducible assumption) | assumption); have q417 : x5_2 < (l0_0.length : Int) := of_decide_eq_true (by first | (with_reducible assumption) | assumption); obtain ⟨qro, e417, qfE⟩ := Kd.at_int qb9.out x5_2 p417 q417; cases e417; replace qfE := (HB.out.cell (World.block_lt_of_cell? w _ qfE)).trans qfE; replace p417 := eq_true p417; replace q417 := eq_true q417
            go_wp2_with (first | ((with_reducible refine qaz (f := 34) rfl ?_); refine qbd (some 50) rfl rfl Try.func34 (by kernel_rfl) rfl #[.int .i64 (rd l0_0 x5_2), .int .i64 0, .int .i64 100000] rfl (by (try simp only [List.map_toArray, List.map_cons, List.map_nil]); first | done | rfl | (simp only [List.length_drop, List.length_take]; rfl)) ?_; (with_reducible refine (qaG.calls (rd l0_0 x5_2) 0 100000 true _ A21.out).mono ?_); rintro e w' ⟨rfl, ⟨nd, rfl⟩⟩; refine ⟨_, rfl, ?_⟩; have p419 : 0 ≤ (x5_2 : Int) := of_decide_eq_true (by first | (with_reducible assumption) | assumption); have q419 : x5_2 < (l0_1.length : Int) := of_decide_eq_true (by first | (with_reducible assumption) | assumption); obtain ⟨qu7, e419, qhu⟩ := Kd.at_int qb2.out x5_2 p419 q419; cases e419; replace qhu := (HB.out.cell (World.block_lt_of_cell? w _ qhu)).trans qhu; replace p419 := eq_true p419; replace q419 := eq_true q419) | (go_at_call 34; (with_reducible refine (qaG.calls (rd l0_1 x5_2) 0 1000 false _ A24.out).mono ?_); rintro e w' ⟨rfl, ⟨nd, rfl⟩⟩))
            go_roundg kj15
            case measure => have := HJ1.out; have := HK2.out; have := HJ15.out; omega
            case rel => exact ⟨(false), (wrap64 (x5_2 + 1)), (by first | rfl | (simp; done) | (simp [*]; done)), (by first | rfl | (simp; done) | (simp [*]; done)), H', ⟨by have := HJ1.out; have := HK2.out; have := HJ15.out; omega⟩, ⟨by (with_reducible repeat (first | refine qae ?_ _ | refine qai ?_ | refine qad ?_ _)); exact qbh.out⟩, ⟨by repeat (first | (with_reducible first | exact HB.out | apply qac | apply qab | apply qag | refine qah ?_ qgM.out) | exact HB.out)⟩⟩
           rw [if_neg c23] at H
           exact absurd H (by simp)
          replace c22 := Bool.eq_false_iff.mpr c22; subst c22
          have H1 : (qas.l0 kj15 (l0_0.length : Int) false (wrap64 (x5_2 + 1)) l0_0 l0_1 l0_2 a0_3 a0_4) = some r := by rw [if_neg (show ¬ (false = true) by decide)] at H; exact H
          clear H; have H := H1; clear H1; have H' := qaa.mk H; clear H; have qsG : wc.cell? ⟨qcE, 0, none⟩ = some (.slice A0_0 l0_0.length c0_0) := (qaf qbh.out 0).trans rfl; have qsH : wc.cell? ⟨qcE, 1, none⟩ = some (.slice A0_1 l0_1.length c0_1) := (qaf qbh.out 1).trans rfl; have qsI : wc.cell? ⟨qcE, 2, none⟩ = some (.slice A0_2 l0_2.length c0_2) := (qaf qbh.out 2).trans rfl; have qsJ : wc.cell? ⟨qcE, 3, none⟩ = some (.int .i64 a0_3) := (qaf qbh.out 3).trans rfl; have qsK : wc.cell? ⟨qcE, 4, none⟩ = some (.int .i64 a0_4) := (qaf qbh.out 4).trans rfl; have qsL := qaj qbh.out 0; have qsM := qaj qbh.out 1; have qsN := qaj qbh.out 2; have qsO := qaj qbh.out 3; have qsP := qaj qbh.out 4; have p417 : 0 ≤ (x5_2 : Int) := of_decide_eq_true (by first | (with_reducible assumption) | assumption); have q417 : x5_2 < (l0_0.length : Int) := of_decide_eq_true (by first | (with_reducible assumption) | assumption); obtain ⟨qro, e417, qfE⟩ := Kd.at_int qb9.out x5_2 p417 q417; cases e417; replace qfE := (HB.out.cell (World.block_lt_of_cell? w _ qfE)).trans qfE; replace p417 := eq_true p417; replace q417 := eq_true q417
          go_wp2_with (first | ((with_reducible refine qaz (f := 34) rfl ?_); refine qbd (some 50) rfl rfl Try.func34 (by kernel_rfl) rfl #[.int .i64 (rd l0_0 x5_2), .int .i64 0, .int .i64 100000] rfl (by (try simp only [List.map_toArray, List.map_cons, List.map_nil]); first | done | rfl | (simp only [List.length_drop, List.length_take]; rfl)) ?_; (with_reducible refine (qaG.calls (rd l0_0 x5_2) 0 100000 false _ A21.out).mono ?_); rintro e w' ⟨rfl, ⟨nd, rfl⟩⟩; refine ⟨_, rfl, ?_⟩))
          go_roundg kj15
          case measure => have := HJ1.out; have := HK2.out; have := HJ15.out; omega
          case rel => exact ⟨(false), (wrap64 (x5_2 + 1)), (by first | rfl | (simp; done) | (simp [*]; done)), (by first | rfl | (simp; done) | (simp [*]; done)), H', ⟨by have := HJ1.out; have := HK2.out; have := HJ15.out; omega⟩, ⟨by (with_reducible repeat (first | refine qae ?_ _ | refine qai ?_ | refine qad ?_ _)); exact qbh.out⟩, ⟨by repeat (first | (with_reducible first | exact HB.out | apply qac | apply qab | apply qag | refine qah ?_ qgM.out) | exact HB.out)⟩⟩
         rw [if_neg c20] at H
         exact absurd H (by simp)
        rw [if_neg c19] at H
        exact absurd H (by simp)
       replace c18 := Bool.eq_false_iff.mpr c18; subst c18
       have H1 : (some x4_2) = some r := by rw [if_neg (show ¬ (false = true) by decide)] at H; exact H
       clear H; have H := H1; clear H1; obtain rfl := Option.some.inj H
       go_wp2
       go_ret
       exact ⟨by first | rfl | (simp [qaC, qaB] <;> rfl) | (simp [*, qaC, qaB] <;> rfl), by repeat (first | (with_reducible first | exact HB.out | apply qac | apply qab | apply qag | refine qah ?_ qgM.out) | exact HB.out)⟩
end Go.Proofs.Ytmhomdohhihlcaa.P
namespace Go.Proofs.Ytmhomdohhihlcaa.P
open Go.RowKit Go.Proofs.YtmhomdohhihlcaaW.PrintWords Go.Proofs.YtmhomdohhihlcaaW.PrintLast Go.Proofs.YtmhomdohhihlcaaW.PrintMore
attribute [local go_sem] qbT qbR qb7 qb6 qbH qbG qbS qbU
def qaK.l0 : Nat → List Int → Int → Bool → Int → Option (Bool)
 | 0, _, _, _, _ => none
 | k + 1, x0, x2, x7, x8 => if x7 = true then (if x8 < (x0.length : Int) then (if 0 ≤ x8 then ((qaG.f (rd x0 x8) 0 x2).bind fun t424 => (qaK.l0 k x0 x2 t424 (wrap64 (x8 + 1)))) else (none)) else (some x7)) else (some x7)
def qaK.f (k : Nat) (l0 : List Int) (a1 : Int) (a2 : Int) : Option (Bool) := qaK.l0 k l0 a2 ((l0.length : Int) == a1) 0
set_option maxHeartbeats 8000000 in
set_option maxRecDepth 100000 in
theorem qaK.calls (k : Nat) (A0 : Option Addr) (c0 : Nat) (l0 : List Int) (a1 : Int) (a2 : Int) (r : Bool) (w : World) (hr0 : Kd.C (Kd.int .i64) w A0 l0.length l0) (hc0 : l0.length ≤ c0) (h : qaK.f k l0 a1 a2 = some r) :
  Calls Try.prog 80 #[.slice A0 l0.length c0, .int .i64 a1, .int .i64 a2] w fun e w' => e = .returned (.bool r) ∧ qbn w w' := by
 have HR0 := qaa.mk hr0
 have HC0 := qaa.mk hc0
 clear hr0 hc0
 have H : (qaK.l0 k l0 a2 ((l0.length : Int) == a1) 0) = some r := h
 clear h
 have H' := qaa.mk H
 clear H
 go_enter Try.func80, Try.ntmps80
 go_wp2
 go_loopg [7, 8] k (fun kq v7 v8 w' => ∃ (x7_1 : Bool) (x8_1 : Int), v7 = .bool x7_1 ∧ v8 = .int .i64 x8_1 ∧ qaa (qaK.l0 kq l0 a2 x7_1 x8_1 = some r) ∧ qaa (kq ≤ k) ∧ qbn w w')
 case atStart => exact ⟨(((l0.length : Int) == a1)), (0), (by first | rfl | (simp; done) | (simp [*]; done)), (by first | rfl | (simp; done) | (simp [*]; done)), H', ⟨Nat.le_refl _⟩, by repeat (first | exact qbn.refl _ | apply qbn.step)⟩
 case round =>
  clear H'
  try clear p2
  obtain ⟨x7_1, x8_1, rfl, rfl, HA, HK1, ⟨m1, rfl⟩⟩ := hrel
  cases gk with
  | zero => exact absurd HA.out (by simp [qaK.l0])
  | succ k1 =>
   have H := HA.out
   clear HA
   simp only [qaK.l0] at H
   by_cases c4 : x7_1 = true
   ·
    subst c4
    have H1 : (if x8_1 < (l0.length : Int) then (if 0 ≤ x8_1 then ((qaG.f (rd l0 x8_1) 0 a2).bind fun t424 => (qaK.l0 k1 l0 a2 t424 (wrap64 (x8_1 + 1)))) else (none)) else (some true)) = some r := by rw [if_pos rfl] at H; exact H
    clear H; have H := H1; clear H1
    by_cases c5 : x8_1 < (l0.length : Int)
    ·
     rw [if_pos c5] at H; have c5b0 : decide (x8_1 < (l0.length : Int)) = true := decide_eq_true c5; clear c5
     by_cases c6 : 0 ≤ x8_1
     ·
      rw [if_pos c6] at H; have c6b0 : decide (0 ≤ x8_1) = true := decide_eq_true c6; clear c6; replace H := Option.bind_eq_some_iff.mp H; obtain ⟨t424, A70, H⟩ := H; replace H : (qaK.l0 k1 l0 a2 t424 (wrap64 (x8_1 + 1))) = some r := H; have A7 := qaa.mk A70; clear A70; have H' := qaa.mk H; clear H; have p423 : 0 ≤ (x8_1 : Int) := of_decide_eq_true (by first | (with_reducible assumption) | assumption); have q423 : x8_1 < (l0.length : Int) := of_decide_eq_true (by first | (with_reducible assumption) | assumption); obtain ⟨qDn, e423, qx7⟩ := Kd.at_int HR0.out x8_1 p423 q423; cases e423; replace p423 := eq_true p423; replace q423 := eq_true q423
      go_wp2_with (first | ((with_reducible refine qaz (f := 34) rfl ?_); refine qbd (some 27) rfl rfl Try.func34 (by kernel_rfl) rfl #[.int .i64 (rd l0 x8_1), .int .i64 0, .int .i64 a2] rfl (by (try simp only [List.map_toArray, List.map_cons, List.map_nil]); first | done | rfl | (simp only [List.length_drop, List.length_take]; rfl)) ?_; (with_reducible refine (qaG.calls (rd l0 x8_1) 0 a2 t424 _ A7.out).mono ?_); rintro e w' ⟨rfl, ⟨nd, rfl⟩⟩; refine ⟨_, rfl, ?_⟩))
      go_roundg k1
      case measure => have := HK1.out; omega
      case rel => exact ⟨(t424), (wrap64 (x8_1 + 1)), (by first | rfl | (simp; done) | (simp [*]; done)), (by first | rfl | (simp; done) | (simp [*]; done)), H', ⟨by have := HK1.out; omega⟩, by repeat (first | exact qbn.refl _ | apply qbn.step)⟩
     rw [if_neg c6] at H
     exact absurd H (by simp)
    rw [if_neg c5] at H; have c5b0 : decide (x8_1 < (l0.length : Int)) = false := decide_eq_false c5; clear c5; obtain rfl := Option.some.inj H
    go_wp2
    go_ret
    exact ⟨by first | rfl | (simp; done) | (simp [*]; done), by repeat (first | exact qbn.refl _ | apply qbn.step)⟩
   replace c4 := Bool.eq_false_iff.mpr c4
   subst c4
   have H1 : (some false) = some r := by rw [if_neg (show ¬ (false = true) by decide)] at H; exact H
   clear H
   have H := H1
   clear H1
   obtain rfl := Option.some.inj H
   go_wp2
   go_ret
   exact ⟨by first | rfl | (simp; done) | (simp [*]; done), by repeat (first | exact qbn.refl _ | apply qbn.step)⟩
end Go.Proofs.Ytmhomdohhihlcaa.P
namespace Go.Proofs.Ytmhomdohhihlcaa.P
open Go.RowKit Go.Proofs.YtmhomdohhihlcaaW.PrintWords Go.Proofs.YtmhomdohhihlcaaW.PrintLast Go.Proofs.YtmhomdohhihlcaaW.PrintMore
attribute [local go_sem] qbT qbR qb7 qb6 qbH qbG qbS qbU
def qbl.l0 : Nat → Int → List Int → Int → List Int → List Int → List Int → Int → Int → Option (List Int)
 | 0, _, _, _, _, _, _, _, _ => none
 | k + 1, x2, x7, x8, qte, qtf, qtg, qth, qoC => if x8 ≥ qoC then (if 0 ≤ x8 then (if x8 < (x7.length : Int) then (qbl.l0 k (wrap64 (x2 - (mn (rd x7 x8) x2))) (x7.set (x8 : Int).toNat (wrap64 ((rd x7 x8) - (mn (rd x7 x8) x2)))) (wrap64 (x8 - 1)) qte qtf qtg qth qoC) else (none)) else (none)) else (some x7)
def qbl.f (k : Nat) (l0_0 : List Int) (l0_1 : List Int) (l0_2 : List Int) (a0_3 : Int) (a0_4 : Int) (l1 : List Int) (a2 : Int) : Option (List Int) := (some (([] : List Int) : List Int)).bind fun y426 => (if y426.length + l1.length < 17592186044416 then ((some (y426 ++ l1 : List Int)).bind fun y429 => (qbl.l0 k a2 y429 (wrap64 ((y429.length : Int) - 1)) l0_0 l0_1 l0_2 a0_3 a0_4)) else (none))
set_option maxHeartbeats 8000000 in
set_option maxRecDepth 100000 in
theorem qbl.calls (k : Nat) (A0_0 : Option Addr) (c0_0 : Nat) (l0_0 : List Int) (A0_1 : Option Addr) (c0_1 : Nat) (l0_1 : List Int) (A0_2 : Option Addr) (c0_2 : Nat) (l0_2 : List Int) (a0_3 : Int) (a0_4 : Int) (A1 : Option Addr) (c1 : Nat) (l1 : List Int) (a2 : Int) (r : List Int) (w : World) (qcQ : Kd.C (Kd.int .i64) w A0_0 l0_0.length l0_0) (qcV : l0_0.length ≤ c0_0) (qcH : Kd.C (Kd.int .i64) w A0_1 l0_1.length l0_1) (qcL : l0_1.length ≤ c0_1) (qcI : Kd.C (Kd.int .i64) w A0_2 l0_2.length l0_2) (qcM : l0_2.length ≤ c0_2) (hr1 : Kd.C (Kd.int .i64) w A1 l1.length l1) (hc1 : l1.length ≤ c1) (h : qbl.f k l0_0 l0_1 l0_2 a0_3 a0_4 l1 a2 = some r) :
  Calls Try.prog 99 #[.agg #[.slice A0_0 l0_0.length c0_0, .slice A0_1 l0_1.length c0_1, .slice A0_2 l0_2.length c0_2, .int .i64 a0_3, .int .i64 a0_4], .slice A1 l1.length c1, .int .i64 a2] w fun e w' => ∃ v0_ : Value, e = .returned (v0_) ∧ Kd.R (Kd.int .i64) 3 w' w.heap.size (fun _ => True) v0_ r ∧ Below w.heap.size w w' := by
 have hu39 := Try.underlying39
 have qb9 := qaa.mk qcQ
 have qcx := qaa.mk qcV
 clear qcQ qcV
 have qb2 := qaa.mk qcH
 have qcj := qaa.mk qcL
 clear qcH qcL
 have qb8 := qaa.mk qcI
 have qck := qaa.mk qcM
 clear qcI qcM
 have HR1 := qaa.mk hr1
 have HC1 := qaa.mk hc1
 clear hr1 hc1
 have HB := qaa.mk (Below.refl w.heap.size w)
 have H : ((some (([] : List Int) : List Int)).bind fun y426 => (if y426.length + l1.length < 17592186044416 then ((some (y426 ++ l1 : List Int)).bind fun y429 => (qbl.l0 k a2 y429 (wrap64 ((y429.length : Int) - 1)) l0_0 l0_1 l0_2 a0_3 a0_4)) else (none))) = some r := h
 clear h
 obtain ⟨y426, qls⟩ : ∃ y_ : List Int, y_ = (([] : List Int)) := ⟨_, rfl⟩
 replace H : (if y426.length + l1.length < 17592186044416 then ((some (y426 ++ l1 : List Int)).bind fun y429 => (qbl.l0 k a2 y429 (wrap64 ((y429.length : Int) - 1)) l0_0 l0_1 l0_2 a0_3 a0_4)) else (none)) = some r := by first | (rw [qls]; with_reducible exact H) | (have H2_ := (Option.bind_some _ _).symm.trans H; rw [qls]; with_reducible exact H2_) | (have H2_ := (Option.bind_some _ _).symm.trans H; with_reducible exact H2_) | with_reducible exact H | (rw [qls]; exact H) | exact H
 have qrp := qaa.mk qls
 clear qls
 by_cases c4 : y426.length + l1.length < 17592186044416
 ·
  rw [if_pos c4] at H
  have LMc4 := qaa.mk c4
  clear c4
  obtain ⟨y429, qlt⟩ : ∃ y_ : List Int, y_ = (y426 ++ l1) := ⟨_, rfl⟩
  replace H : (qbl.l0 k a2 y429 (wrap64 ((y429.length : Int) - 1)) l0_0 l0_1 l0_2 a0_3 a0_4) = some r := by first | (rw [qlt]; with_reducible exact H) | (have H2_ := (Option.bind_some _ _).symm.trans H; rw [qlt]; with_reducible exact H2_) | (have H2_ := (Option.bind_some _ _).symm.trans H; with_reducible exact H2_) | with_reducible exact H | (rw [qlt]; exact H) | exact H
  have qu8 := qaa.mk qlt
  clear qlt
  have H' := qaa.mk H
  clear H
  go_enter Try.func99, Try.ntmps99
  go_wp2_with (first | ((with_reducible refine qaN (N := 3) rfl ?_); refine qba ?hg (N := 3) ?hd (cs := #[.slice A0_0 l0_0.length c0_0, .slice A0_1 l0_1.length c0_1, .slice A0_2 l0_2.length c0_2, .int .i64 a0_3, .int .i64 a0_4]) (t := 39) ?hr ?_; (case hd => rfl); (case hg => rfl); (case hr => first | (go_simp; done) | (go_simp; rfl)); intro qfA hg w5 hbox hb; have n0_ := qaa.mk (qap (by repeat (first | (with_reducible first | exact HB.out | apply qac | apply qab | apply qag) | exact HB.out)) hb); have n1_ := qaa.mk (hbox); have n2_ := qaa.mk ((by rw [hg]; exact (qal (by repeat (first | (with_reducible first | exact HB.out | apply qac | apply qab | apply qag) | exact HB.out))) : w.heap.size ≤ qfA)); have n3_ := qaa.mk ((by rw [hg]; exact (qal (by repeat (first | (with_reducible first | exact HB.out | apply qac | apply qab | apply qag) | exact HB.out))) : w.heap.size ≤ qfA)); clear HB; have HB := n0_; have qdh := n1_; have qDo := n2_; have qjX := n3_; clear n0_ n1_ n2_ n3_; clear hb hbox hg) | ((with_reducible refine qaN (N := 10) rfl ?_); refine Kd.R_lit (Kd.int .i64) _ 3 ?hg (N := 10) ?hd (xs := ([] : List Int)) (inner := []) (ok := fun _ => True) (okp := fun _ => True) ?hr ?hp (fun _ hk => hk) trivial (Below.refl _ _) (Nat.le_refl _) (by simp) ?_; (case hd => rfl); (case hg => rfl); (case hr => first | (go_simp; done) | (go_simp; rfl)); (case hp => exact (Reps.none _ _)); intro v427 w6 ho7 hb hg_ hnew_; clear hg_ hnew_; (first | rw [← qrp.out] at ho7 | (simp only [Int.reduceToNat] at ho7; rw [← qrp.out] at ho7)); have n0_ := qaa.mk (Kd.R_lower ho7 (qal (by repeat (first | (with_reducible first | exact HB.out | apply qac | apply qab | apply qag | refine qah ?_ qjX.out) | exact HB.out)))); have n1_ := qaa.mk (qam (g := qfA) (o := .cells #[.slice A0_0 l0_0.length c0_0, .slice A0_1 l0_1.length c0_1, .slice A0_2 l0_2.length c0_2, .int .i64 a0_3, .int .i64 a0_4] 39 (0, 0)) (by (with_reducible repeat (first | refine qae ?_ _ | refine qai ?_ | refine qad ?_ _)); exact qdh.out) hb); have n2_ := qaa.mk (qap (by repeat (first | (with_reducible first | exact HB.out | apply qac | apply qab | apply qag | refine qah ?_ qjX.out) | exact HB.out)) hb); clear qdh; clear HB; have qpS := n0_; have qdh := n1_; have HB := n2_; clear n0_ n1_ n2_; clear hb ho7) | ((with_reducible refine qj9 (b := .append) (xs := #[.tmp 10, .tmp 11]) rfl ?_); at_builtin; refine Kd.R_append_rows (Kd.int .i64) (w0 := w) w.heap.size rfl (.tmp 10) (.tmp 11) 37 3 (.int .i64 0) 8 rfl Try.underlying37 qhf rfl (by decide) (by omega) v427 y426 l1 _ _ _ (fun _ => True) (fun _ => False) rfl rfl ?aO ?aR (fun _ _ h => h) (fun _ h => h.elim) ?aF ?aB ?aS ?aL ?_; (case aR => repeat (first | exact (Kd.C_below HR1.out HB.out) | (with_reducible refine Kd.C_alloc ?_ _) | (with_reducible refine Kd.C_drewN ?_ _) | (with_reducible refine Kd.C_drew ?_))); (case aB => exact (by repeat (first | (with_reducible first | exact HB.out | apply qac | apply qab | apply qag | refine qah ?_ qjX.out) | exact HB.out))); (case aF => exact (fun _ _ => trivial)); (case aO => exact (by (with_reducible repeat (first | apply Kd.R_alloc | apply Kd.R_drewN | apply Kd.R_drew)); exact qpS.out)); (case aS => exact (qal (by repeat (first | (with_reducible first | exact HB.out | apply qac | apply qab | apply qag | refine qah ?_ qjX.out) | exact HB.out)))); (case aL => have := LMc4.out; omega); intro v430 w8 ho hb hg hat; rw [← qu8.out] at ho; have n0_ := qaa.mk (qdw (g := qfA) (o := .cells #[.slice A0_0 l0_0.length c0_0, .slice A0_1 l0_1.length c0_1, .slice A0_2 l0_2.length c0_2, .int .i64 a0_3, .int .i64 a0_4] 39 (0, 0)) (by (with_reducible repeat (first | refine qae ?_ _ | refine qai ?_ | refine qad ?_ _)); exact qdh.out) hg (Kd.R_ne qpS.out qdh.out (by decide))); have n1_ := qaa.mk (hb); have n2_ := qaa.mk (ho); clear qdh; clear HB; clear qpS; have qdh := n0_; have HB := n1_; have qrq := n2_; clear n0_ n1_ n2_; clear ho hb hg hat; obtain ⟨Ao9, co9, eo9⟩ := Kd.R_slice qrq.out; subst eo9))
  go_loopg [2, 8] k (fun kq v2 v8 w' => ∃ (x2_1 : Int) (x7_1 : List Int) (x8_1 : Int), v2 = .int .i64 x2_1 ∧ v8 = .int .i64 x8_1 ∧ qaa (qbl.l0 kq x2_1 x7_1 x8_1 l0_0 l0_1 l0_2 a0_3 a0_4 = some r) ∧ qaa (kq ≤ k) ∧ qaa (Kd.R (Kd.int .i64) 3 w' w.heap.size (fun _ => True) (.slice Ao9 y429.length co9) x7_1) ∧ qaa (w'.heap[qfA]? = some (.cells #[(.slice A0_0 l0_0.length c0_0), (.slice A0_1 l0_1.length c0_1), (.slice A0_2 l0_2.length c0_2), .int .i64 a0_3, .int .i64 a0_4] 39 (0, 0))) ∧ qaa (Below w.heap.size w w'))
  case atStart => exact ⟨(a2), (y429), (wrap64 ((y429.length : Int) - 1)), (by first | rfl | (simp; done) | (simp [*]; done)), (by first | rfl | (simp; done) | (simp [*]; done)), H', ⟨Nat.le_refl _⟩, ⟨by (with_reducible repeat (first | apply Kd.R_alloc | apply Kd.R_drewN | apply Kd.R_drew)); exact qrq.out⟩, ⟨by (with_reducible repeat (first | refine qae ?_ _ | refine qai ?_ | refine qad ?_ _)); exact qdh.out⟩, ⟨by repeat (first | (with_reducible first | exact HB.out | apply qac | apply qab | apply qag | refine qah ?_ qjX.out) | exact HB.out)⟩⟩
  case round =>
   clear H'
   try clear c1
   try clear p2
   try clear c4
   try clear p6
   try clear c9
   obtain ⟨x2_1, x7_1, x8_1, rfl, rfl, HA, HK1, HO_7, qdh, HB⟩ := hrel
   have qkq := (Kd.R_reads' HO_7.out).1
   rw [qkq] at HO_7
   (try simp only [qkq])
   (try simp only [qkq] at qdh)
   cases gk with
   | zero => exact absurd HA.out (by simp [qbl.l0])
   | succ k1 =>
    have H := HA.out; clear HA; simp only [qbl.l0] at H
    by_cases c10 : x8_1 ≥ a0_4
    ·
     rw [if_pos c10] at H; have c10b0 : decide (a0_4 ≤ x8_1) = true := decide_eq_true c10; clear c10
     by_cases c11 : 0 ≤ x8_1
     ·
      rw [if_pos c11] at H; have c11b0 : decide (0 ≤ x8_1) = true := decide_eq_true c11; clear c11
      by_cases c12 : x8_1 < (x7_1.length : Int)
      ·
       rw [if_pos c12] at H; have c12b0 : decide (x8_1 < (x7_1.length : Int)) = true := decide_eq_true c12; clear c12; obtain ⟨ji13, qnj⟩ : ∃ j_ : Int, (mn (rd x7_1 x8_1) x2_1) = j_ := ⟨_, rfl⟩
       replace H : (qbl.l0 k1 (wrap64 (x2_1 - (ji13))) (x7_1.set (x8_1 : Int).toNat (wrap64 ((rd x7_1 x8_1) - (ji13)))) (wrap64 (x8_1 - 1)) l0_0 l0_1 l0_2 a0_3 a0_4) = some r := by first | (rw [qnj] at H; exact H) | (simp only [qnj] at H ⊢; exact H)
       have hji13_ : (if x2_1 < (rd x7_1 x8_1) then x2_1 else (rd x7_1 x8_1)) = ji13 := qnj; obtain ⟨y434, qlu⟩ : ∃ y_ : List Int, y_ = (x7_1.set (x8_1 : Int).toNat (wrap64 ((rd x7_1 x8_1) - (ji13)))) := ⟨_, rfl⟩
       replace H : (qbl.l0 k1 (wrap64 (x2_1 - (ji13))) y434 (wrap64 (x8_1 - 1)) l0_0 l0_1 l0_2 a0_3 a0_4) = some r := by first | (rw [qlu]; with_reducible exact H) | (have H2_ := (Option.bind_some _ _).symm.trans H; rw [qlu]; with_reducible exact H2_) | (have H2_ := (Option.bind_some _ _).symm.trans H; with_reducible exact H2_) | with_reducible exact H | (rw [qlu]; exact H) | exact H
       have qu9 := qaa.mk qlu; clear qlu; have H' := qaa.mk H; clear H; have qem : wr.cell? ⟨qfA, 0, none⟩ = some (.slice A0_0 l0_0.length c0_0) := (qaf qdh.out 0).trans rfl; have qen : wr.cell? ⟨qfA, 1, none⟩ = some (.slice A0_1 l0_1.length c0_1) := (qaf qdh.out 1).trans rfl; have qeP : wr.cell? ⟨qfA, 2, none⟩ = some (.slice A0_2 l0_2.length c0_2) := (qaf qdh.out 2).trans rfl; have qeQ : wr.cell? ⟨qfA, 3, none⟩ = some (.int .i64 a0_3) := (qaf qdh.out 3).trans rfl; have qeR : wr.cell? ⟨qfA, 4, none⟩ = some (.int .i64 a0_4) := (qaf qdh.out 4).trans rfl; have qeo := qaj qdh.out 0; have qep := qaj qdh.out 1; have qeS := qaj qdh.out 2; have qeT := qaj qdh.out 3; have qeU := qaj qdh.out 4; have p432 : 0 ≤ (x8_1 : Int) := of_decide_eq_true (by first | (with_reducible assumption) | assumption); have q432 : x8_1 < (x7_1.length : Int) := of_decide_eq_true (by first | (with_reducible assumption) | assumption); obtain ⟨qva, e432, qti⟩ := Kd.at_int (Kd.R_reads' HO_7.out).2.2 x8_1 p432 q432; cases e432; replace p432 := eq_true p432; replace q432 := eq_true q432; have p433 : 0 ≤ (x8_1 : Int) := of_decide_eq_true (by first | (with_reducible assumption) | assumption); have q433 : x8_1 < (x7_1.length : Int) := of_decide_eq_true (by first | (with_reducible assumption) | assumption); obtain ⟨qvb, e433, qtj⟩ := Kd.at_int (Kd.R_reads' HO_7.out).2.2 x8_1 p433 q433; obtain rfl : qva = qvb := (by injection e433); replace p433 := eq_true p433; replace q433 := eq_true q433; have p14 : 0 ≤ (x8_1 : Int) := of_decide_eq_true (by first | (with_reducible assumption) | assumption); have q14 : (x8_1 : Int) < ((x7_1.length : Int) : Int) := of_decide_eq_true (by first | (with_reducible assumption) | assumption); obtain ⟨go14, co14, eo14, gb14, gl14, cl14, HG14⟩ := Kd.R_form HO_7.out (by omega)
       (first | cases eo14 | (injection eo14 with ea_ en_ ec_; (first | subst ea_ | (injection ea_ with ea_; subst ea_)); subst ec_; clear en_))
       have GB14 := qaa.mk gb14; have GG14 := qaa.mk HG14; clear gb14 gl14 HG14
       (first | simp only [qey] at qti | skip)
       (first | simp only [qey] at qtj | skip)
       obtain ⟨qCl, qCm⟩ := Kd.R_celln 0 HO_7.out (x8_1 : Int) p14 q14; replace p14 := eq_true p14; replace q14 := eq_true q14; have HP16 := Kd.R_putg HO_7.out (x8_1 : Int) (wrap64 ((rd x7_1 x8_1) - (ji13)))
       go_wp2_with (first | ((with_reducible refine qk2 (t := 3) (p := 34) rfl ?_); refine qkU (t := 3) (p := 34) (v := ?vo_w17) (w1 := (wr.setCell ⟨go14, (x8_1 : Int).toNat, none⟩ (.int .i64 (wrap64 ((rd x7_1 x8_1) - (ji13)))))) ?hg ?ho ?hn ?hr ?_; (case ho => rfl); (case hg => rfl); (case hn => rfl); (case hr => first | (go_simp; done) | (go_simp; rfl)); intro w17 hw; have hg : wr.grownBy w17 (some go14) := (by rw [hw]; exact HP16.2); have hp_ : Kd.R (Kd.int .i64) 3 w17 w.heap.size (fun _ => True) (.slice (some ⟨go14, 0, none⟩) x7_1.length co9) y434 := (by rw [hw, qu9.out]; exact HP16.1); clear HP16; have n0_ := qaa.mk (hp_); have n1_ := qaa.mk (qdw (g := qfA) (o := .cells #[.slice A0_0 l0_0.length c0_0, .slice A0_1 l0_1.length c0_1, .slice A0_2 l0_2.length c0_2, .int .i64 a0_3, .int .i64 a0_4] 39 (0, 0)) (by (with_reducible repeat (first | refine qae ?_ _ | refine qai ?_ | refine qad ?_ _)); exact qdh.out) hg (Kd.R_ne HO_7.out qdh.out (by decide))); have n2_ := qaa.mk ((by rw [hw]; exact qah (HB.out) GB14.out : Below w.heap.size w w17)); clear HO_7; clear qdh; clear HB; have HO_7 := n0_; have qdh := n1_; have HB := n2_; clear n0_ n1_ n2_; clear hg hw hp_))
       (try simp only [← qkq])
       go_roundg k1
       case measure => have := HK1.out; omega
       case rel => exact ⟨(wrap64 (x2_1 - (ji13))), (y434), (wrap64 (x8_1 - 1)), (by first | rfl | (simp; done) | (simp only [← qnj] <;> (first | rfl | simp)) | (simp [*]; done)), (by first | rfl | (simp; done) | (simp [*]; done)), H', ⟨by have := HK1.out; omega⟩, ⟨by (try simp only [qkq]); (with_reducible repeat (first | apply Kd.R_alloc | apply Kd.R_drewN | apply Kd.R_drew)); exact HO_7.out⟩, ⟨by (try simp only [qkq]); (with_reducible repeat (first | refine qae ?_ _ | refine qai ?_ | refine qad ?_ _)); exact qdh.out⟩, ⟨by repeat (first | (with_reducible first | exact HB.out | apply qac | apply qab | apply qag | refine qah ?_ qjX.out) | exact HB.out)⟩⟩
      rw [if_neg c12] at H
      exact absurd H (by simp)
     rw [if_neg c11] at H
     exact absurd H (by simp)
    rw [if_neg c10] at H; have c10b0 : decide (a0_4 ≤ x8_1) = false := decide_eq_false c10; clear c10; obtain rfl := Option.some.inj H; have qgx : wr.cell? ⟨qfA, 0, none⟩ = some (.slice A0_0 l0_0.length c0_0) := (qaf qdh.out 0).trans rfl; have qgy : wr.cell? ⟨qfA, 1, none⟩ = some (.slice A0_1 l0_1.length c0_1) := (qaf qdh.out 1).trans rfl; have qgz : wr.cell? ⟨qfA, 2, none⟩ = some (.slice A0_2 l0_2.length c0_2) := (qaf qdh.out 2).trans rfl; have qjc : wr.cell? ⟨qfA, 3, none⟩ = some (.int .i64 a0_3) := (qaf qdh.out 3).trans rfl; have qjd : wr.cell? ⟨qfA, 4, none⟩ = some (.int .i64 a0_4) := (qaf qdh.out 4).trans rfl; have qgA := qaj qdh.out 0; have qgB := qaj qdh.out 1; have qgC := qaj qdh.out 2; have qje := qaj qdh.out 3; have qjf := qaj qdh.out 4
    go_wp2
    go_ret
    exact ⟨_, by first | rfl | (simp [qaC, qaB] <;> rfl) | (simp [*, qaC, qaB] <;> rfl), by (with_reducible repeat (first | apply Kd.R_alloc | apply Kd.R_drewN | apply Kd.R_drew)); exact HO_7.out, by repeat (first | (with_reducible first | exact HB.out | apply qac | apply qab | apply qag | refine qah ?_ qjX.out) | exact HB.out)⟩
 rw [if_neg c4] at H
 exact absurd H (by simp)
end Go.Proofs.Ytmhomdohhihlcaa.P
namespace Go.Proofs.Ytmhomdohhihlcaa.P
open Go.RowKit Go.Proofs.YtmhomdohhihlcaaW.PrintWords Go.Proofs.YtmhomdohhihlcaaW.PrintLast Go.Proofs.YtmhomdohhihlcaaW.PrintMore
attribute [local go_sem] qbT qbR qb7 qb6 qbH qbG qbS qbU
def qby.l0 : Nat → List Int → Int → Int → List Int → List Int → List Int → Int → Int → Option (Int)
 | 0, _, _, _, _, _, _, _, _ => none
 | k + 1, x1, x5, x6, qtk, qtl, qmz, qtm, qtn => if x6 < (x1.length : Int) then (if 0 ≤ x6 then (if x6 < (qmz.length : Int) then (qby.l0 k x1 (wrap64 (x5 + (wrap64 ((rd x1 x6) * (rd qmz x6))))) (wrap64 (x6 + 1)) qtk qtl qmz qtm qtn) else (none)) else (none)) else (some x5)
def qby.f (k : Nat) (l0_0 : List Int) (l0_1 : List Int) (l0_2 : List Int) (a0_3 : Int) (a0_4 : Int) (l1 : List Int) : Option (Int) := qby.l0 k l1 0 0 l0_0 l0_1 l0_2 a0_3 a0_4
set_option maxHeartbeats 8000000 in
set_option maxRecDepth 100000 in
theorem qby.calls (k : Nat) (A0_0 : Option Addr) (c0_0 : Nat) (l0_0 : List Int) (A0_1 : Option Addr) (c0_1 : Nat) (l0_1 : List Int) (A0_2 : Option Addr) (c0_2 : Nat) (l0_2 : List Int) (a0_3 : Int) (a0_4 : Int) (A1 : Option Addr) (c1 : Nat) (l1 : List Int) (r : Int) (w : World) (qcQ : Kd.C (Kd.int .i64) w A0_0 l0_0.length l0_0) (qcV : l0_0.length ≤ c0_0) (qcH : Kd.C (Kd.int .i64) w A0_1 l0_1.length l0_1) (qcL : l0_1.length ≤ c0_1) (qcI : Kd.C (Kd.int .i64) w A0_2 l0_2.length l0_2) (qcM : l0_2.length ≤ c0_2) (hr1 : Kd.C (Kd.int .i64) w A1 l1.length l1) (hc1 : l1.length ≤ c1) (h : qby.f k l0_0 l0_1 l0_2 a0_3 a0_4 l1 = some r) :
  Calls Try.prog 100 #[.agg #[.slice A0_0 l0_0.length c0_0, .slice A0_1 l0_1.length c0_1, .slice A0_2 l0_2.length c0_2, .int .i64 a0_3, .int .i64 a0_4], .slice A1 l1.length c1] w fun e w' => e = .returned (.int .i64 r) ∧ Below w.heap.size w w' := by
 have hu39 := Try.underlying39
 have qb9 := qaa.mk qcQ
 have qcx := qaa.mk qcV
 clear qcQ qcV
 have qb2 := qaa.mk qcH
 have qcj := qaa.mk qcL
 clear qcH qcL
 have qb8 := qaa.mk qcI
 have qck := qaa.mk qcM
 clear qcI qcM
 have HR1 := qaa.mk hr1
 have HC1 := qaa.mk hc1
 clear hr1 hc1
 have HB := qaa.mk (Below.refl w.heap.size w)
 have H : (qby.l0 k l1 0 0 l0_0 l0_1 l0_2 a0_3 a0_4) = some r := h
 clear h
 have H' := qaa.mk H
 clear H
 go_enter Try.func100, Try.ntmps100
 go_wp2_with (first | ((with_reducible refine qaN (N := 2) rfl ?_); refine qba ?hg (N := 2) ?hd (cs := #[.slice A0_0 l0_0.length c0_0, .slice A0_1 l0_1.length c0_1, .slice A0_2 l0_2.length c0_2, .int .i64 a0_3, .int .i64 a0_4]) (t := 39) ?hr ?_; (case hd => rfl); (case hg => rfl); (case hr => first | (go_simp; done) | (go_simp; rfl)); intro qf6 hg w3 hbox hb; have n0_ := qaa.mk (qap (by repeat (first | (with_reducible first | exact HB.out | apply qac | apply qab | apply qag) | exact HB.out)) hb); have n1_ := qaa.mk (hbox); have n2_ := qaa.mk ((by rw [hg]; exact (qal (by repeat (first | (with_reducible first | exact HB.out | apply qac | apply qab | apply qag) | exact HB.out))) : w.heap.size ≤ qf6)); have n3_ := qaa.mk ((by rw [hg]; exact (qal (by repeat (first | (with_reducible first | exact HB.out | apply qac | apply qab | apply qag) | exact HB.out))) : w.heap.size ≤ qf6)); clear HB; have HB := n0_; have qfL := n1_; have qrr := n2_; have qlv := n3_; clear n0_ n1_ n2_ n3_; clear hb hbox hg))
 repeat (go_quiet (first | ((with_reducible refine qaN (N := 2) rfl ?_); refine qba ?hg (N := 2) ?hd (cs := #[.slice A0_0 l0_0.length c0_0, .slice A0_1 l0_1.length c0_1, .slice A0_2 l0_2.length c0_2, .int .i64 a0_3, .int .i64 a0_4]) (t := 39) ?hr ?_; (case hd => rfl); (case hg => rfl); (case hr => first | (go_simp; done) | (go_simp; rfl)); intro qf6 hg w3 hbox hb; have n0_ := qaa.mk (qap (by repeat (first | (with_reducible first | exact HB.out | apply qac | apply qab | apply qag) | exact HB.out)) hb); have n1_ := qaa.mk (hbox); have n2_ := qaa.mk ((by rw [hg]; exact (qal (by repeat (first | (with_reducible first | exact HB.out | apply qac | apply qab | apply qag) | exact HB.out))) : w.heap.size ≤ qf6)); have n3_ := qaa.mk ((by rw [hg]; exact (qal (by repeat (first | (with_reducible first | exact HB.out | apply qac | apply qab | apply qag) | exact HB.out))) : w.heap.size ≤ qf6)); clear HB; have HB := n0_; have qfL := n1_; have qrr := n2_; have qlv := n3_; clear n0_ n1_ n2_ n3_; clear hb hbox hg)); try go_wp2_with (first | ((with_reducible refine qaN (N := 2) rfl ?_); refine qba ?hg (N := 2) ?hd (cs := #[.slice A0_0 l0_0.length c0_0, .slice A0_1 l0_1.length c0_1, .slice A0_2 l0_2.length c0_2, .int .i64 a0_3, .int .i64 a0_4]) (t := 39) ?hr ?_; (case hd => rfl); (case hg => rfl); (case hr => first | (go_simp; done) | (go_simp; rfl)); intro qf6 hg w3 hbox hb; have n0_ := qaa.mk (qap (by repeat (first | (with_reducible first | exact HB.out | apply qac | apply qab | apply qag) | exact HB.out)) hb); have n1_ := qaa.mk (hbox); have n2_ := qaa.mk ((by rw [hg]; exact (qal (by repeat (first | (with_reducible first | exact HB.out | apply qac | apply qab | apply qag) | exact HB.out))) : w.heap.size ≤ qf6)); have n3_ := qaa.mk ((by rw [hg]; exact (qal (by repeat (first | (with_reducible first | exact HB.out | apply qac | apply qab | apply qag) | exact HB.out))) : w.heap.size ≤ qf6)); clear HB; have HB := n0_; have qfL := n1_; have qrr := n2_; have qlv := n3_; clear n0_ n1_ n2_ n3_; clear hb hbox hg)))
 go_loopg [5, 6] k (fun kq v5 v6 w' => ∃ (x5_1 : Int) (x6_1 : Int), v5 = .int .i64 x5_1 ∧ v6 = .int .i64 x6_1 ∧ qaa (qby.l0 kq l1 x5_1 x6_1 l0_0 l0_1 l0_2 a0_3 a0_4 = some r) ∧ qaa (kq ≤ k) ∧ qaa (w'.heap[qf6]? = some (.cells #[(.slice A0_0 l0_0.length c0_0), (.slice A0_1 l0_1.length c0_1), (.slice A0_2 l0_2.length c0_2), .int .i64 a0_3, .int .i64 a0_4] 39 (0, 0))) ∧ qaa (Below w.heap.size w w'))
 case atStart => exact ⟨(0), (0), (by first | rfl | (simp; done) | (simp [*]; done)), (by first | rfl | (simp; done) | (simp [*]; done)), H', ⟨Nat.le_refl _⟩, ⟨by (with_reducible repeat (first | refine qae ?_ _ | refine qai ?_ | refine qad ?_ _)); exact qfL.out⟩, ⟨by repeat (first | (with_reducible first | exact HB.out | apply qac | apply qab | apply qag | refine qah ?_ qlv.out) | exact HB.out)⟩⟩
 case round =>
  clear H'
  try clear c1
  try clear p2
  obtain ⟨x5_1, x6_1, rfl, rfl, HA, HK1, qfL, HB⟩ := hrel
  cases gk with
  | zero => exact absurd HA.out (by simp [qby.l0])
  | succ k1 =>
   have H := HA.out
   clear HA
   simp only [qby.l0] at H
   by_cases c4 : x6_1 < (l1.length : Int)
   ·
    rw [if_pos c4] at H; have c4b0 : decide (x6_1 < (l1.length : Int)) = true := decide_eq_true c4; clear c4
    by_cases c5 : 0 ≤ x6_1
    ·
     rw [if_pos c5] at H; have c5b0 : decide (0 ≤ x6_1) = true := decide_eq_true c5; clear c5
     by_cases c6 : x6_1 < (l0_2.length : Int)
     ·
      rw [if_pos c6] at H; have c6b0 : decide (x6_1 < (l0_2.length : Int)) = true := decide_eq_true c6; clear c6; have H' := qaa.mk H; clear H; have p436 : 0 ≤ (x6_1 : Int) := of_decide_eq_true (by first | (with_reducible assumption) | assumption); have q436 : x6_1 < (l1.length : Int) := of_decide_eq_true (by first | (with_reducible assumption) | assumption); obtain ⟨qDp, e436, qmA⟩ := Kd.at_int HR1.out x6_1 p436 q436; cases e436; replace qmA := (HB.out.cell (World.block_lt_of_cell? w _ qmA)).trans qmA; replace p436 := eq_true p436; replace q436 := eq_true q436; have qqI : wr.cell? ⟨qf6, 0, none⟩ = some (.slice A0_0 l0_0.length c0_0) := (qaf qfL.out 0).trans rfl; have qqJ : wr.cell? ⟨qf6, 1, none⟩ = some (.slice A0_1 l0_1.length c0_1) := (qaf qfL.out 1).trans rfl; have qqK : wr.cell? ⟨qf6, 2, none⟩ = some (.slice A0_2 l0_2.length c0_2) := (qaf qfL.out 2).trans rfl; have qCn : wr.cell? ⟨qf6, 3, none⟩ = some (.int .i64 a0_3) := (qaf qfL.out 3).trans rfl; have qCo : wr.cell? ⟨qf6, 4, none⟩ = some (.int .i64 a0_4) := (qaf qfL.out 4).trans rfl; have qqL := qaj qfL.out 0; have qqM := qaj qfL.out 1; have qqN := qaj qfL.out 2; have qCp := qaj qfL.out 3; have qCq := qaj qfL.out 4; have p437 : 0 ≤ (x6_1 : Int) := of_decide_eq_true (by first | (with_reducible assumption) | assumption); have q437 : x6_1 < (l0_2.length : Int) := of_decide_eq_true (by first | (with_reducible assumption) | assumption); obtain ⟨qDq, e437, qmB⟩ := Kd.at_int qb8.out x6_1 p437 q437; cases e437; replace qmB := (HB.out.cell (World.block_lt_of_cell? w _ qmB)).trans qmB; replace p437 := eq_true p437; replace q437 := eq_true q437
      go_wp2
      repeat (go_quiet (fail); try go_wp2)
      go_roundg k1
      case measure => have := HK1.out; omega
      case rel => exact ⟨(wrap64 (x5_1 + (wrap64 ((rd l1 x6_1) * (rd l0_2 x6_1))))), (wrap64 (x6_1 + 1)), (by first | rfl | (simp; done) | (simp [*]; done)), (by first | rfl | (simp; done) | (simp [*]; done)), H', ⟨by have := HK1.out; omega⟩, ⟨by (with_reducible repeat (first | refine qae ?_ _ | refine qai ?_ | refine qad ?_ _)); exact qfL.out⟩, ⟨by repeat (first | (with_reducible first | exact HB.out | apply qac | apply qab | apply qag | refine qah ?_ qlv.out) | exact HB.out)⟩⟩
     rw [if_neg c6] at H
     exact absurd H (by simp)
    rw [if_neg c5] at H
    exact absurd H (by simp)
   rw [if_neg c4] at H
   have c4b0 : decide (x6_1 < (l1.length : Int)) = false := decide_eq_false c4
   clear c4
   obtain rfl := Option.some.inj H
   go_wp2
   repeat (go_quiet (fail); try go_wp2)
   go_ret
   exact ⟨by first | rfl | (simp [qaC, qaB] <;> rfl) | (simp [*, qaC, qaB] <;> rfl), by repeat (first | (with_reducible first | exact HB.out | apply qac | apply qab | apply qag | refine qah ?_ qlv.out) | exact HB.out)⟩
end Go.Proofs.Ytmhomdohhihlcaa.P
namespace Go.Proofs.Ytmhomdohhihlcaa.P
open Go.RowKit Go.Proofs.YtmhomdohhihlcaaW.PrintWords Go.Proofs.YtmhomdohhihlcaaW.PrintLast Go.Proofs.YtmhomdohhihlcaaW.PrintMore
attribute [local go_sem] qbT qbR qb7 qb6 qbH qbG qbS qbU
def qaR.l0 : Nat → List Int → Int → List Int → Int → List Int → List Int → List Int → Int → Int → Option (List Int)
 | 0, _, _, _, _, _, _, _, _, _ => none
 | k + 1, x1, x2, x7, x8, qto, qmC, qtp, qtq, qtr => if x8 < (x1.length : Int) then (if 0 ≤ (mn (wrap64 (x8 + 1)) (wrap64 ((x1.length : Int) - 1))) then (if (mn (wrap64 (x8 + 1)) (wrap64 ((x1.length : Int) - 1))) < (x7.length : Int) then (if 0 ≤ x8 then (if x8 < (qmC.length : Int) then (qaR.l0 k x1 x2 (x7.set ((mn (wrap64 (x8 + 1)) (wrap64 ((x1.length : Int) - 1))) : Int).toNat (wrap64 ((rd x7 (mn (wrap64 (x8 + 1)) (wrap64 ((x1.length : Int) - 1)))) + (wrap64 (Int.tdiv (wrap64 ((rd x1 x8) * (rd qmC x8))) 1000))))) (wrap64 (x8 + 1)) qto qmC qtp qtq qtr) else (none)) else (none)) else (none)) else (none)) else (if 0 < (x7.length : Int) then (some (x7.set (0 : Int).toNat (wrap64 ((rd x7 0) + x2)))) else (none))
def qaR.f (k : Nat) (l0_0 : List Int) (l0_1 : List Int) (l0_2 : List Int) (a0_3 : Int) (a0_4 : Int) (l1 : List Int) (a2 : Int) : Option (List Int) := if 0 ≤ (l1.length : Int) then (if ((l1.length : Int) : Int).toNat ≤ 35184372088832 then (qaR.l0 k l1 a2 (List.replicate ((l1.length : Int) : Int).toNat 0) 0 l0_0 l0_1 l0_2 a0_3 a0_4) else (none)) else (none)
def qaR.T5 : Bool × List (List Nat × List Nat) := (true, [([], []), ([], []), ([1], [1]), ([], []), ([3], [3]), ([4], [4]), ([2, 5], [2, 5]), ([0, 6], [0, 6]), ([7], [7]), ([], []), ([], []), ([9, 10], [9, 10]), ([11], [11]), ([], []), ([13], [13]), ([], []), ([14, 15], [14, 15]), ([16], [16]), ([12, 17], [12, 17]), ([18], [18]), ([8, 19], [8, 19]), ([0, 6, 0, 1, 2, 3, 4, 5, 6, 7, 8, 9, 10, 11, 12, 13, 14, 15, 16, 17, 18, 19, 20], [0, 6]), ([21, 20, 0, 1, 2, 3, 4, 5, 6, 7, 8, 9, 10, 11, 12, 13, 14, 15, 16, 17, 18, 19, 20], [20, 21])])
def qaR.B5 : List Nat := [0, 0, 2, 0, 8, 24, 62, 127, 255, 0, 0, 1536, 3584, 0, 8192, 0, 57344, 122880, 261632, 523776, 1048575, 2097151, 4194303]
theorem qaR.tab5 : rtab .any (qjS Try.f101 5) = qaR.T5 := by kernel_rfl
theorem qaR.bits5 : qfC qaR.T5.2 qaR.B5 = true := by kernel_rfl
set_option maxHeartbeats 8000000 in
set_option maxRecDepth 100000 in
theorem qaR.calls (k : Nat) (A0_0 : Option Addr) (c0_0 : Nat) (l0_0 : List Int) (A0_1 : Option Addr) (c0_1 : Nat) (l0_1 : List Int) (A0_2 : Option Addr) (c0_2 : Nat) (l0_2 : List Int) (a0_3 : Int) (a0_4 : Int) (A1 : Option Addr) (c1 : Nat) (l1 : List Int) (a2 : Int) (r : List Int) (w : World) (qcQ : Kd.C (Kd.int .i64) w A0_0 l0_0.length l0_0) (qcV : l0_0.length ≤ c0_0) (qcH : Kd.C (Kd.int .i64) w A0_1 l0_1.length l0_1) (qcL : l0_1.length ≤ c0_1) (qcI : Kd.C (Kd.int .i64) w A0_2 l0_2.length l0_2) (qcM : l0_2.length ≤ c0_2) (hr1 : Kd.C (Kd.int .i64) w A1 l1.length l1) (hc1 : l1.length ≤ c1) (h : qaR.f k l0_0 l0_1 l0_2 a0_3 a0_4 l1 a2 = some r) :
  Calls Try.prog 101 #[.agg #[.slice A0_0 l0_0.length c0_0, .slice A0_1 l0_1.length c0_1, .slice A0_2 l0_2.length c0_2, .int .i64 a0_3, .int .i64 a0_4], .slice A1 l1.length c1, .int .i64 a2] w fun e w' => ∃ v0_ : Value, e = .returned (v0_) ∧ Kd.R (Kd.int .i64) 3 w' w.heap.size (fun _ => True) v0_ r ∧ Below w.heap.size w w' := by
 have hu39 := Try.underlying39
 have qb9 := qaa.mk qcQ
 have qcx := qaa.mk qcV
 clear qcQ qcV
 have qb2 := qaa.mk qcH
 have qcj := qaa.mk qcL
 clear qcH qcL
 have qb8 := qaa.mk qcI
 have qck := qaa.mk qcM
 clear qcI qcM
 have HR1 := qaa.mk hr1
 have HC1 := qaa.mk hc1
 clear hr1 hc1
 have HB := qaa.mk (Below.refl w.heap.size w)
 have H : (if 0 ≤ (l1.length : Int) then (if ((l1.length : Int) : Int).toNat ≤ 35184372088832 then (qaR.l0 k l1 a2 (List.replicate ((l1.length : Int) : Int).toNat 0) 0 l0_0 l0_1 l0_2 a0_3 a0_4) else (none)) else (none)) = some r := h
 clear h
 by_cases c4 : 0 ≤ (l1.length : Int)
 ·
  rw [if_pos c4] at H
  have c4b0 := eq_true c4
  have c4b1 : decide (0 ≤ (l1.length : Int)) = true := decide_eq_true c4
  clear c4
  by_cases c5 : ((l1.length : Int) : Int).toNat ≤ 35184372088832
  ·
   rw [if_pos c5] at H
   have c5b0 := eq_true c5
   have c5b1 : decide (((l1.length : Int) : Int).toNat ≤ 35184372088832) = true := decide_eq_true c5
   clear c5
   obtain ⟨y439, qlw⟩ : ∃ y_ : List Int, y_ = (List.replicate ((l1.length : Int) : Int).toNat 0) := ⟨_, rfl⟩
   replace H : (qaR.l0 k l1 a2 y439 0 l0_0 l0_1 l0_2 a0_3 a0_4) = some r := by first | (rw [qlw]; with_reducible exact H) | (have H2_ := (Option.bind_some _ _).symm.trans H; rw [qlw]; with_reducible exact H2_) | (have H2_ := (Option.bind_some _ _).symm.trans H; with_reducible exact H2_) | with_reducible exact H | (rw [qlw]; exact H) | exact H
   have qrs := qaa.mk qlw
   clear qlw
   have H' := qaa.mk H
   clear H
   go_enter Try.func101, Try.ntmps101
   go_wp2_with (first | ((with_reducible refine qaN (N := 3) rfl ?_); refine qba ?hg (N := 3) ?hd (cs := #[.slice A0_0 l0_0.length c0_0, .slice A0_1 l0_1.length c0_1, .slice A0_2 l0_2.length c0_2, .int .i64 a0_3, .int .i64 a0_4]) (t := 39) ?hr ?_; (case hd => rfl); (case hg => rfl); (case hr => first | (go_simp; done) | (go_simp; rfl)); intro qhL hg w6 hbox hb; have n0_ := qaa.mk (qap (by repeat (first | (with_reducible first | exact HB.out | apply qac | apply qab | apply qag) | exact HB.out)) hb); have n1_ := qaa.mk (hbox); have n2_ := qaa.mk ((by rw [hg]; exact (qal (by repeat (first | (with_reducible first | exact HB.out | apply qac | apply qab | apply qag) | exact HB.out))) : w.heap.size ≤ qhL)); have n3_ := qaa.mk ((by rw [hg]; exact (qal (by repeat (first | (with_reducible first | exact HB.out | apply qac | apply qab | apply qag) | exact HB.out))) : w.heap.size ≤ qhL)); clear HB; have HB := n0_; have qer := n1_; have qDr := n2_; have qlx := n3_; clear n0_ n1_ n2_ n3_; clear hb hbox hg) | ((with_reducible refine qaN (N := 11) rfl ?_); refine Kd.R_make (Kd.int .i64) _ 3 rfl (N := 11) rfl 37 _ _ rfl (l1.length : Int) rfl rfl Try.underlying37 (.int .i64 0) 8 qhf rfl (by decide) (by omega) 0 (ok := fun _ => True) (okp := fun _ => True) rfl (fun _ hk => hk) trivial (of_decide_eq_true (by first | (with_reducible assumption) | assumption)) (Nat.le_trans (Nat.mul_le_mul_right _ (of_decide_eq_true (by first | (with_reducible assumption) | assumption) : (l1.length : Int).toNat ≤ 35184372088832)) (by omega)) (Below.refl _ _) (Nat.le_refl _) ?_; intro v440 w7 ho8 hb hg_ hnew_; clear hg_ hnew_; (first | rw [← qrs.out] at ho8 | (simp only [Int.reduceToNat] at ho8; rw [← qrs.out] at ho8)); have n0_ := qaa.mk (Kd.R_lower ho8 (qal (by repeat (first | (with_reducible first | exact HB.out | apply qac | apply qab | apply qag | refine qah ?_ qlx.out) | exact HB.out)))); have n1_ := qaa.mk (qam (g := qhL) (o := .cells #[.slice A0_0 l0_0.length c0_0, .slice A0_1 l0_1.length c0_1, .slice A0_2 l0_2.length c0_2, .int .i64 a0_3, .int .i64 a0_4] 39 (0, 0)) (by (with_reducible repeat (first | refine qae ?_ _ | refine qai ?_ | refine qad ?_ _)); exact qer.out) hb); have n2_ := qaa.mk (qap (by repeat (first | (with_reducible first | exact HB.out | apply qac | apply qab | apply qag | refine qah ?_ qlx.out) | exact HB.out)) hb); clear qer; clear HB; have qvc := n0_; have qer := n1_; have HB := n2_; clear n0_ n1_ n2_; clear hb ho8))
   go_loopg [8] k (fun kq v8 w' => ∃ (x7_1 : List Int) (x8_1 : Int), v8 = .int .i64 x8_1 ∧ qaa (qaR.l0 kq l1 a2 x7_1 x8_1 l0_0 l0_1 l0_2 a0_3 a0_4 = some r) ∧ qaa (kq ≤ k) ∧ qaa (Kd.R (Kd.int .i64) 3 w' w.heap.size (fun _ => True) v440 x7_1) ∧ qaa (w'.heap[qhL]? = some (.cells #[(.slice A0_0 l0_0.length c0_0), (.slice A0_1 l0_1.length c0_1), (.slice A0_2 l0_2.length c0_2), .int .i64 a0_3, .int .i64 a0_4] 39 (0, 0))) ∧ qaa (Below w.heap.size w w'))
   case atStart => exact ⟨(y439), (0), (by first | rfl | (simp; done) | (simp [*]; done)), H', ⟨Nat.le_refl _⟩, ⟨by (with_reducible repeat (first | apply Kd.R_alloc | apply Kd.R_drewN | apply Kd.R_drew)); exact qvc.out⟩, ⟨by (with_reducible repeat (first | refine qae ?_ _ | refine qai ?_ | refine qad ?_ _)); exact qer.out⟩, ⟨by repeat (first | (with_reducible first | exact HB.out | apply qac | apply qab | apply qag | refine qah ?_ qlx.out) | exact HB.out)⟩⟩
   case round =>
    clear H'; (try clear c1); (try clear p2); (try clear c4); (try clear c4b0); (try clear c4b1); (try clear c5); (try clear c5b0); (try clear c5b1); obtain ⟨x7_1, x8_1, rfl, HA, HK1, HO_7, qer, HB⟩ := hrel
    cases gk with
    | zero => exact absurd HA.out (by simp [qaR.l0])
    | succ k1 =>
     have H := HA.out; clear HA; simp only [qaR.l0] at H
     by_cases c9 : x8_1 < (l1.length : Int)
     ·
      rw [if_pos c9] at H; have c9b0 : decide (x8_1 < (l1.length : Int)) = true := decide_eq_true c9; clear c9; obtain ⟨ji10, qpT⟩ : ∃ j_ : Int, (mn (wrap64 (x8_1 + 1)) (wrap64 ((l1.length : Int) - 1))) = j_ := ⟨_, rfl⟩
      replace H : (if 0 ≤ (ji10) then (if (ji10) < (x7_1.length : Int) then (if 0 ≤ x8_1 then (if x8_1 < (l0_1.length : Int) then (qaR.l0 k1 l1 a2 (x7_1.set ((ji10) : Int).toNat (wrap64 ((rd x7_1 (ji10)) + (wrap64 (Int.tdiv (wrap64 ((rd l1 x8_1) * (rd l0_1 x8_1))) 1000))))) (wrap64 (x8_1 + 1)) l0_0 l0_1 l0_2 a0_3 a0_4) else (none)) else (none)) else (none)) else (none)) = some r := by first | (rw [qpT] at H; exact H) | (simp only [qpT] at H ⊢; exact H)
      have hji10_ : (if (wrap64 ((l1.length : Int) - 1)) < (wrap64 (x8_1 + 1)) then (wrap64 ((l1.length : Int) - 1)) else (wrap64 (x8_1 + 1))) = ji10 := qpT
      by_cases c11 : 0 ≤ (ji10)
      ·
       rw [if_pos c11] at H; have c11b0 : decide (0 ≤ (ji10)) = true := decide_eq_true c11; clear c11
       by_cases c12 : (ji10) < (x7_1.length : Int)
       ·
        rw [if_pos c12] at H; have c12b0 : decide ((ji10) < (x7_1.length : Int)) = true := decide_eq_true c12; clear c12
        by_cases c13 : 0 ≤ x8_1
        ·
         rw [if_pos c13] at H; have c13b0 : decide (0 ≤ x8_1) = true := decide_eq_true c13; clear c13
         by_cases c14 : x8_1 < (l0_1.length : Int)
         ·
          rw [if_pos c14] at H; have c14b0 : decide (x8_1 < (l0_1.length : Int)) = true := decide_eq_true c14; clear c14; obtain ⟨y445, qly⟩ : ∃ y_ : List Int, y_ = (x7_1.set ((ji10) : Int).toNat (wrap64 ((rd x7_1 (ji10)) + (wrap64 (Int.tdiv (wrap64 ((rd l1 x8_1) * (rd l0_1 x8_1))) 1000))))) := ⟨_, rfl⟩
          replace H : (qaR.l0 k1 l1 a2 y445 (wrap64 (x8_1 + 1)) l0_0 l0_1 l0_2 a0_3 a0_4) = some r := by first | (rw [qly]; with_reducible exact H) | (have H2_ := (Option.bind_some _ _).symm.trans H; rw [qly]; with_reducible exact H2_) | (have H2_ := (Option.bind_some _ _).symm.trans H; with_reducible exact H2_) | with_reducible exact H | (rw [qly]; exact H) | exact H
          have qvd := qaa.mk qly; clear qly; have H' := qaa.mk H; clear H
          try go_wp2
          have n0_ := qaa.mk (Kd.R_drew HO_7.out); have n1_ := qaa.mk (qai qer.out); have n2_ := qaa.mk (qag HB.out); clear HO_7 qer HB; have HO_7 := n0_; have qer := n1_; have HB := n2_; clear n0_ n1_ n2_; obtain ⟨Ao17, co17, eo17⟩ := Kd.R_slice HO_7.out
          (first | subst eo17 | (injection eo17 with f1_ f2_ f3_; have f4_ := f1_.symm; have f5_ := f3_.symm; clear f1_ f2_ f3_; subst f4_; subst f5_))
          have p442 : 0 ≤ ((ji10) : Int) := of_decide_eq_true (by first | (with_reducible assumption) | assumption); have q442 : (ji10) < (x7_1.length : Int) := of_decide_eq_true (by first | (with_reducible assumption) | assumption); obtain ⟨qDs, e442, qmD⟩ := Kd.at_int (Kd.R_reads' HO_7.out).2.2 (ji10) p442 q442; cases e442; replace p442 := eq_true p442; replace q442 := eq_true q442; have p443 : 0 ≤ (x8_1 : Int) := of_decide_eq_true (by first | (with_reducible assumption) | assumption); have q443 : x8_1 < (l1.length : Int) := of_decide_eq_true (by first | (with_reducible assumption) | assumption); obtain ⟨qve, e443, qjm⟩ := Kd.at_int HR1.out x8_1 p443 q443; have qoD := qjm; cases e443; replace qjm := (HB.out.cell (World.block_lt_of_cell? w _ qjm)).trans qjm; replace p443 := eq_true p443; replace q443 := eq_true q443; have p444 : 0 ≤ (x8_1 : Int) := of_decide_eq_true (by first | (with_reducible assumption) | assumption); have q444 : x8_1 < (l0_1.length : Int) := of_decide_eq_true (by first | (with_reducible assumption) | assumption); obtain ⟨qrt, e444, qjn⟩ := Kd.at_int qb2.out x8_1 p444 q444; have qoE := qjn; cases e444; replace qjn := (HB.out.cell (World.block_lt_of_cell? w _ qjn)).trans qjn; replace p444 := eq_true p444; replace q444 := eq_true q444; have p15 : 0 ≤ ((ji10) : Int) := of_decide_eq_true (by first | (with_reducible assumption) | assumption); have q15 : ((ji10) : Int) < ((x7_1.length : Int) : Int) := of_decide_eq_true (by first | (with_reducible assumption) | assumption); obtain ⟨go15, co15, eo15, gb15, gl15, cl15, HG15⟩ := Kd.R_form HO_7.out (by omega)
          (first | cases eo15 | (injection eo15 with ea_ en_ ec_; (first | subst ea_ | (injection ea_ with ea_; subst ea_)); subst ec_; clear en_))
          have GB15 := qaa.mk gb15; have GG15 := qaa.mk HG15; clear gb15 gl15 HG15
          (first | simp only [qey] at qmD | skip)
          obtain ⟨quz, quA⟩ := Kd.R_celln 0 HO_7.out ((ji10) : Int) p15 q15; replace p15 := eq_true p15; replace q15 := eq_true q15; have HP18 := Kd.R_putn HO_7.out ((ji10) : Int) (wrap64 ((rd x7_1 (ji10)) + (wrap64 (Int.tdiv (wrap64 ((rd l1 x8_1) * (rd l0_1 x8_1))) 1000)))); rw [← qvd.out] at HP18; have HQ18 := qaa.mk HP18; clear HP18; refine qhT (n := 23) (S := fun w' => w'.cell? ⟨qhL, 0, none⟩ = some (.slice A0_0 l0_0.length c0_0) ∧ w'.cell? ⟨qhL, 1, none⟩ = some (.slice (some qrt) l0_1.length c0_1) ∧ w'.cell? ⟨qhL, 2, none⟩ = some (.slice A0_2 l0_2.length c0_2) ∧ w'.cell? ⟨qhL, 3, none⟩ = some (.int .i64 a0_3) ∧ w'.cell? ⟨qhL, 4, none⟩ = some (.int .i64 a0_4) ∧ w'.cell? ⟨go15, ((ji10)).toNat, none⟩ = some (.int .i64 (rd x7_1 (ji10))) ∧ w'.cell? (qve.add (x8_1).toNat) = some (.int .i64 (rd l1 x8_1)) ∧ w'.cell? (qrt.add (x8_1).toNat) = some (.int .i64 (rd l0_1 x8_1))) (ds := [22]) #[false, false, false, false, false, false, false, false, false, false, false, false, false, false, false, false, false, false, false, false, false, false, false] (by kernel_rfl) rfl rfl ⟨(qaf qer.out 0).trans rfl, (qaf qer.out 1).trans rfl, (qaf qer.out 2).trans rfl, (qaf qer.out 3).trans rfl, (qaf qer.out 4).trans rfl, qmD, ((HB.out.cell (World.block_lt_of_cell? w _ qoD)).trans qoD), ((HB.out.cell (World.block_lt_of_cell? w _ qoE)).trans qoE)⟩ (fun hHeld => ?_); refine qgf qaR.tab5 qaR.bits5 (fun HT_ HW_ => ?_)
          generalize wr.drew = w16 at HO_7 qer HB GG15 HQ18 quA quz qmD qjm qjn hHeld ⊢
          refine qbI (i := 0) (N := some 18) (v := ?_) (a' := ?_) #[true, false, false, false, false, false, false, false, false, false, false, false, false, false, false, false, false, false, false, false, false, false, false] rfl rfl (qbr HT_.out (by kernel_rfl)) (fun _ _ _ h => h) (Or.inl ⟨by rfl, ?_⟩) ?_ ?_
          rotate_left
          ·
           intro w'
           go_simp
           with_reducible rfl
          rotate_left
          ·
           simp only [Act.put, List.setIfInBounds_toArray, List.set_cons_zero, List.set_cons_succ, qaQ, qaU]
           rfl
          refine qbI (i := 1) (N := some 19) (v := ?_) (a' := ?_) #[true, true, false, false, false, false, false, false, false, false, false, false, false, false, false, false, false, false, false, false, false, false, false] rfl rfl (qbr HT_.out (by kernel_rfl)) (fun _ _ _ h => h) (Or.inl ⟨by rfl, ?_⟩) ?_ ?_
          rotate_left
          ·
           intro w'
           go_simp
           with_reducible rfl
          rotate_left
          ·
           simp only [Act.put, List.setIfInBounds_toArray, List.set_cons_zero, List.set_cons_succ, qaQ, qaU]
           rfl
          refine qbI (i := 2) (N := some 20) (v := ?_) (a' := ?_) #[true, true, true, false, false, false, false, false, false, false, false, false, false, false, false, false, false, false, false, false, false, false, false] rfl rfl (qbr HT_.out (by kernel_rfl)) (fun _ _ _ h => h) (Or.inl ⟨by rfl, ?_⟩) ?_ ?_
          rotate_left
          ·
           intro w'
           go_simp
           with_reducible rfl
          rotate_left
          ·
           simp only [Act.put, List.setIfInBounds_toArray, List.set_cons_zero, List.set_cons_succ, qaQ, qaU]
           rfl
          refine qbI (i := 3) (N := some 21) (v := ?_) (a' := ?_) #[true, true, true, true, false, false, false, false, false, false, false, false, false, false, false, false, false, false, false, false, false, false, false] rfl rfl (qbr HT_.out (by kernel_rfl)) (fun _ _ _ h => h) (Or.inl ⟨by rfl, ?_⟩) ?_ ?_
          rotate_left
          ·
           intro w'
           go_simp
           with_reducible rfl
          rotate_left
          ·
           simp only [Act.put, List.setIfInBounds_toArray, List.set_cons_zero, List.set_cons_succ, qaQ, qaU]
           rfl
          refine qbI (i := 4) (N := some 22) (v := ?_) (a' := ?_) #[true, true, true, true, true, false, false, false, false, false, false, false, false, false, false, false, false, false, false, false, false, false, false] rfl rfl (qbr HT_.out (by kernel_rfl)) (fun _ _ _ h => h) (Or.inl ⟨by rfl, ?_⟩) ?_ ?_
          rotate_left
          ·
           intro w'
           go_simp
           with_reducible rfl
          rotate_left
          ·
           simp only [Act.put, List.setIfInBounds_toArray, List.set_cons_zero, List.set_cons_succ, qaQ, qaU]
           rfl
          refine qbI (i := 5) (N := some 23) (v := ?_) (a' := ?_) #[true, true, true, true, true, true, false, false, false, false, false, false, false, false, false, false, false, false, false, false, false, false, false] rfl rfl (qbr HT_.out (by kernel_rfl)) (fun _ _ _ h => h) (Or.inl ⟨by rfl, ?_⟩) ?_ ?_
          rotate_left
          ·
           intro w'
           go_simp
           with_reducible rfl
          rotate_left
          ·
           simp only [Act.put, List.setIfInBounds_toArray, List.set_cons_zero, List.set_cons_succ, qaQ, qaU]
           rfl
          refine qbI (i := 6) (N := some 24) (v := ?_) (a' := ?_) #[true, true, true, true, true, true, true, false, false, false, false, false, false, false, false, false, false, false, false, false, false, false, false] rfl rfl (qbr HT_.out (by kernel_rfl)) (fun _ _ _ h => h) (Or.inl ⟨by rfl, ?_⟩) ?_ ?_
          rotate_left
          ·
           intro w'
           go_simp
           with_reducible rfl
          rotate_left
          ·
           simp only [Act.put, List.setIfInBounds_toArray, List.set_cons_zero, List.set_cons_succ, qaQ, qaU]
           rfl
          refine qbI (i := 7) (N := some 25) (v := ?_) (a' := ?_) #[true, true, true, true, true, true, true, true, false, false, false, false, false, false, false, false, false, false, false, false, false, false, false] rfl rfl (qbr HT_.out (by kernel_rfl)) (fun _ _ _ h => h) (Or.inl ⟨by rfl, ?_⟩) ?_ ?_
          rotate_left
          ·
           intro w'
           go_simp
           with_reducible rfl
          rotate_left
          ·
           simp only [Act.put, List.setIfInBounds_toArray, List.set_cons_zero, List.set_cons_succ, qaQ, qaU]
           rfl
          refine qbI (i := 9) (N := some 27) (v := ?_) (a' := ?_) #[true, true, true, true, true, true, true, true, false, true, false, false, false, false, false, false, false, false, false, false, false, false, false] rfl rfl (qbr HT_.out (by kernel_rfl)) (fun _ _ _ h => h) (Or.inl ⟨by rfl, ?_⟩) ?_ ?_
          rotate_left
          ·
           intro w'
           go_simp
           with_reducible rfl
          rotate_left
          ·
           simp only [Act.put, List.setIfInBounds_toArray, List.set_cons_zero, List.set_cons_succ, qaQ, qaU]
           rfl
          refine qbI (i := 10) (N := some 28) (v := ?_) (a' := ?_) #[true, true, true, true, true, true, true, true, false, true, true, false, false, false, false, false, false, false, false, false, false, false, false] rfl rfl (qbr HT_.out (by kernel_rfl)) (fun _ _ _ h => h) (Or.inl ⟨by rfl, ?_⟩) ?_ ?_
          rotate_left
          ·
           intro w'
           go_simp
           with_reducible rfl
          rotate_left
          ·
           simp only [Act.put, List.setIfInBounds_toArray, List.set_cons_zero, List.set_cons_succ, qaQ, qaU]
           rfl
          refine qbI (i := 11) (N := some 29) (v := ?_) (a' := ?_) #[true, true, true, true, true, true, true, true, false, true, true, true, false, false, false, false, false, false, false, false, false, false, false] rfl rfl (qbr HT_.out (by kernel_rfl)) (fun _ _ _ h => h) (Or.inl ⟨by rfl, ?_⟩) ?_ ?_
          rotate_left
          ·
           intro w'
           go_simp
           with_reducible rfl
          rotate_left
          ·
           simp only [Act.put, List.setIfInBounds_toArray, List.set_cons_zero, List.set_cons_succ, qaQ, qaU]
           rfl
          refine qbI (i := 13) (N := some 31) (v := ?_) (a' := ?_) #[true, true, true, true, true, true, true, true, false, true, true, true, false, true, false, false, false, false, false, false, false, false, false] rfl rfl (qbr HT_.out (by kernel_rfl)) (fun _ _ _ h => h) (Or.inl ⟨by rfl, ?_⟩) ?_ ?_
          rotate_left
          ·
           intro w'
           go_simp
           with_reducible rfl
          rotate_left
          ·
           simp only [Act.put, List.setIfInBounds_toArray, List.set_cons_zero, List.set_cons_succ, qaQ, qaU]
           rfl
          refine qbI (i := 15) (N := some 33) (v := ?_) (a' := ?_) #[true, true, true, true, true, true, true, true, false, true, true, true, false, true, false, true, false, false, false, false, false, false, false] rfl rfl (qbr HT_.out (by kernel_rfl)) (fun _ _ _ h => h) (Or.inl ⟨by rfl, ?_⟩) ?_ ?_
          rotate_left
          ·
           intro w'
           go_simp
           with_reducible rfl
          rotate_left
          ·
           simp only [Act.put, List.setIfInBounds_toArray, List.set_cons_zero, List.set_cons_succ, qaQ, qaU]
           rfl
          refine take_ (i := 8) (N := some 26) (v := ?_) (a' := ?_) #[true, true, true, true, true, true, true, true, true, true, true, true, false, true, false, true, false, false, false, false, false, false, false] rfl rfl (qdd HT_.out HW_.out (by kernel_rfl)) (fun _ _ _ h => h) (Or.inl ⟨by rfl, ?_⟩) hHeld ?_ ?_
          rotate_left
          ·
           rintro w' ⟨s0, s1, s2, s3, s4, s5, s6, s7⟩
           go_simp
           with_reducible rfl
          rotate_left
          ·
           simp only [Act.put, List.setIfInBounds_toArray, List.set_cons_zero, List.set_cons_succ, qaQ, qaU]
           rfl
          refine take_ (i := 12) (N := some 30) (v := ?_) (a' := ?_) #[true, true, true, true, true, true, true, true, true, true, true, true, true, true, false, true, false, false, false, false, false, false, false] rfl rfl (qdd HT_.out HW_.out (by kernel_rfl)) (fun _ _ _ h => h) (Or.inl ⟨by rfl, ?_⟩) hHeld ?_ ?_
          rotate_left
          ·
           rintro w' ⟨s0, s1, s2, s3, s4, s5, s6, s7⟩
           go_simp
           with_reducible rfl
          rotate_left
          ·
           simp only [Act.put, List.setIfInBounds_toArray, List.set_cons_zero, List.set_cons_succ, qaQ, qaU]
           rfl
          refine take_ (i := 14) (N := some 32) (v := ?_) (a' := ?_) #[true, true, true, true, true, true, true, true, true, true, true, true, true, true, true, true, false, false, false, false, false, false, false] rfl rfl (qdd HT_.out HW_.out (by kernel_rfl)) (fun _ _ _ h => h) (Or.inl ⟨by rfl, ?_⟩) hHeld ?_ ?_
          rotate_left
          ·
           rintro w' ⟨s0, s1, s2, s3, s4, s5, s6, s7⟩
           go_simp
           with_reducible rfl
          rotate_left
          ·
           simp only [Act.put, List.setIfInBounds_toArray, List.set_cons_zero, List.set_cons_succ, qaQ, qaU]
           rfl
          refine qbI (i := 16) (N := some 34) (v := ?_) (a' := ?_) #[true, true, true, true, true, true, true, true, true, true, true, true, true, true, true, true, true, false, false, false, false, false, false] rfl rfl (qbr HT_.out (by kernel_rfl)) (fun _ _ _ h => h) (Or.inl ⟨by rfl, ?_⟩) ?_ ?_
          rotate_left
          ·
           intro w'
           go_simp
           with_reducible rfl
          rotate_left
          ·
           simp only [Act.put, List.setIfInBounds_toArray, List.set_cons_zero, List.set_cons_succ, qaQ, qaU]
           rfl
          refine take_ (i := 17) (N := some 35) (v := ?_) (a' := ?_) #[true, true, true, true, true, true, true, true, true, true, true, true, true, true, true, true, true, true, false, false, false, false, false] rfl rfl (qdd HT_.out HW_.out (by kernel_rfl)) (fun _ _ _ h => h) (Or.inl ⟨by rfl, ?_⟩) hHeld ?_ ?_
          rotate_left
          ·
           rintro w' ⟨s0, s1, s2, s3, s4, s5, s6, s7⟩
           go_simp
           with_reducible rfl
          rotate_left
          ·
           simp only [Act.put, List.setIfInBounds_toArray, List.set_cons_zero, List.set_cons_succ, qaQ, qaU]
           rfl
          refine qbI (i := 18) (N := some 36) (v := ?_) (a' := ?_) #[true, true, true, true, true, true, true, true, true, true, true, true, true, true, true, true, true, true, true, false, false, false, false] rfl rfl (qbr HT_.out (by kernel_rfl)) (fun _ _ _ h => h) (Or.inl ⟨by rfl, ?_⟩) ?_ ?_
          rotate_left
          ·
           intro w'
           go_simp
           with_reducible rfl
          rotate_left
          ·
           simp only [Act.put, List.setIfInBounds_toArray, List.set_cons_zero, List.set_cons_succ, qaQ, qaU]
           rfl
          refine qbI (i := 19) (N := some 37) (v := ?_) (a' := ?_) #[true, true, true, true, true, true, true, true, true, true, true, true, true, true, true, true, true, true, true, true, false, false, false] rfl rfl (qbr HT_.out (by kernel_rfl)) (fun _ _ _ h => h) (Or.inl ⟨by rfl, ?_⟩) ?_ ?_
          rotate_left
          ·
           intro w'
           go_simp
           with_reducible rfl
          rotate_left
          ·
           simp only [Act.put, List.setIfInBounds_toArray, List.set_cons_zero, List.set_cons_succ, qaQ, qaU]
           rfl
          refine qbI (i := 20) (N := some 38) (v := ?_) (a' := ?_) #[true, true, true, true, true, true, true, true, true, true, true, true, true, true, true, true, true, true, true, true, true, false, false] rfl rfl (qbr HT_.out (by kernel_rfl)) (fun _ _ _ h => h) (Or.inl ⟨by rfl, ?_⟩) ?_ ?_
          rotate_left
          ·
           intro w'
           go_simp
           with_reducible rfl
          rotate_left
          ·
           simp only [Act.put, List.setIfInBounds_toArray, List.set_cons_zero, List.set_cons_succ, qaQ, qaU]
           rfl
          refine qbI (i := 21) (N := some 39) (v := ?_) (a' := ?_) #[true, true, true, true, true, true, true, true, true, true, true, true, true, true, true, true, true, true, true, true, true, true, false] rfl rfl (qbr HT_.out (by kernel_rfl)) (fun _ _ _ h => h) (Or.inl ⟨by rfl, ?_⟩) ?_ ?_
          rotate_left
          ·
           intro w'
           go_simp
           with_reducible rfl
          rotate_left
          ·
           simp only [Act.put, List.setIfInBounds_toArray, List.set_cons_zero, List.set_cons_succ, qaQ, qaU]
           rfl
          refine quP (i := 22) (N := none) #[true, true, true, true, true, true, true, true, true, true, true, true, true, true, true, true, true, true, true, true, true, true, true] rfl rfl (qe1 HT_.out (by kernel_rfl)) (by decide) (fun K hK => ?_); refine qng (w1 := ?_) (by rfl) rfl ?_ ?_
          rotate_left
          ·
           go_simp
           rfl
          refine hK.out _ _ ?_; clear hK K; refine qiO (qho HT_.out (by kernel_rfl)) ?_
          try go_wp2
          go_roundg k1
          case measure => have := HK1.out; omega
          case rel => exact ⟨(y445), (wrap64 (x8_1 + 1)), (by first | rfl | (simp; done) | (simp [*]; done)), H', ⟨by have := HK1.out; omega⟩, ⟨by (with_reducible repeat (first | apply Kd.R_alloc | apply Kd.R_drewN | apply Kd.R_drew)); exact HQ18.out⟩, ⟨by (with_reducible repeat (first | refine qae ?_ _ | refine qai ?_ | refine qad ?_ _)); refine qao ?_ (by have h_ := Kd.R_ne HO_7.out qer.out (by decide); intro e_; exact h_ (by rw [e_]; rfl)) _; (with_reducible repeat (first | refine qae ?_ _ | refine qai ?_ | refine qad ?_ _)); exact qer.out⟩, ⟨by repeat (first | (with_reducible first | exact HB.out | apply qac | apply qab | apply qag | refine qah ?_ GB15.out | refine qah ?_ qlx.out) | exact HB.out)⟩⟩
         rw [if_neg c14] at H
         exact absurd H (by simp)
        rw [if_neg c13] at H
        exact absurd H (by simp)
       rw [if_neg c12] at H
       exact absurd H (by simp)
      rw [if_neg c11] at H
      exact absurd H (by simp)
     rw [if_neg c9] at H; have c9b0 : decide (x8_1 < (l1.length : Int)) = false := decide_eq_false c9; clear c9
     by_cases c19 : 0 < (x7_1.length : Int)
     ·
      rw [if_pos c19] at H; have c19b0 : decide (0 < (x7_1.length : Int)) = true := decide_eq_true c19; have c19b1 : decide (0 < x7_1.length) = true := decide_eq_true (by omega); clear c19; obtain ⟨y447, qlz⟩ : ∃ y_ : List Int, y_ = (x7_1.set (0 : Int).toNat (wrap64 ((rd x7_1 0) + a2))) := ⟨_, rfl⟩
      replace H : (some y447) = some r := by first | (rw [qlz]; with_reducible exact H) | (have H2_ := (Option.bind_some _ _).symm.trans H; rw [qlz]; with_reducible exact H2_) | (have H2_ := (Option.bind_some _ _).symm.trans H; with_reducible exact H2_) | with_reducible exact H | (rw [qlz]; exact H) | exact H
      have qvf := qaa.mk qlz; clear qlz; obtain rfl := Option.some.inj H; obtain ⟨Ao21, co21, eo21⟩ := Kd.R_slice HO_7.out; subst eo21; have p446 : 0 ≤ (0 : Int) := (by omega); have q446 : 0 < (x7_1.length : Int) := of_decide_eq_true (by first | (with_reducible assumption) | assumption); obtain ⟨qDt, e446, qmE⟩ := Kd.at_int (Kd.R_reads' HO_7.out).2.2 0 p446 q446; cases e446; have qDu : (0 < x7_1.length) = True := eq_true (by omega)
      (try rw [show ((0 : Int)).toNat = 0 from rfl] at qmE)
      (try rw [Addr.add_zero'] at qmE)
      replace p446 := eq_true p446; replace q446 := eq_true q446; have p20 : 0 ≤ (0 : Int) := (by omega); have q20 : (0 : Int) < ((x7_1.length : Int) : Int) := of_decide_eq_true (by first | (with_reducible assumption) | assumption); have qi20 : (0 < x7_1.length) = True := eq_true (by omega); obtain ⟨go20, co20, eo20, gb20, gl20, cl20, HG20⟩ := Kd.R_form HO_7.out (by omega)
      (first | cases eo20 | (injection eo20 with ea_ en_ ec_; (first | subst ea_ | (injection ea_ with ea_; subst ea_)); subst ec_; clear en_))
      have GB20 := qaa.mk gb20; have GG20 := qaa.mk HG20; clear gb20 gl20 HG20
      (first | simp only [qey] at qmE | skip)
      obtain ⟨qqO, qqP⟩ := Kd.R_celln 0 HO_7.out (0 : Int) p20 q20
      (try rw [show ((0 : Int)).toNat = 0 from rfl] at qqO)
      (try simp only [Nat.reduceMul, Nat.zero_mul, Nat.zero_add, Nat.reduceAdd] at qqO)
      (try rw [show ((0 : Int)).toNat = 0 from rfl] at qqP)
      (try simp only [Nat.reduceMul, Nat.zero_mul, Nat.zero_add, Nat.reduceAdd] at qqP)
      replace p20 := eq_true p20; replace q20 := eq_true q20; have HP22 := Kd.R_putg HO_7.out (0 : Int) (wrap64 ((rd x7_1 0) + a2))
      go_wp2_with (first | ((with_reducible refine qk2 (t := 3) (p := 45) rfl ?_); refine qkU (t := 3) (p := 45) (v := ?vo_w23) (w1 := (wr.setCell ⟨go20, (0 : Int).toNat, none⟩ (.int .i64 (wrap64 ((rd x7_1 0) + a2))))) ?hg ?ho ?hn ?hr ?_; (case ho => rfl); (case hg => rfl); (case hn => rfl); (case hr => first | (go_simp; done) | (go_simp; rfl)); intro w23 hw; have hg : wr.grownBy w23 (some go20) := (by rw [hw]; exact HP22.2); have hp_ : Kd.R (Kd.int .i64) 3 w23 w.heap.size (fun _ => True) (.slice (some ⟨go20, 0, none⟩) x7_1.length co21) y447 := (by rw [hw, qvf.out]; exact HP22.1); clear HP22; have n0_ := qaa.mk (hp_); have n1_ := qaa.mk (qdw (g := qhL) (o := .cells #[.slice A0_0 l0_0.length c0_0, .slice A0_1 l0_1.length c0_1, .slice A0_2 l0_2.length c0_2, .int .i64 a0_3, .int .i64 a0_4] 39 (0, 0)) (by (with_reducible repeat (first | refine qae ?_ _ | refine qai ?_ | refine qad ?_ _)); exact qer.out) hg (Kd.R_ne HO_7.out qer.out (by decide))); have n2_ := qaa.mk ((by rw [hw]; exact qah (HB.out) GB20.out : Below w.heap.size w w23)); clear HO_7; clear qer; clear HB; have HO_7 := n0_; have qer := n1_; have HB := n2_; clear n0_ n1_ n2_; clear hg hw hp_))
      go_ret
      exact ⟨_, by first | rfl | (simp [qaC, qaB] <;> rfl) | (simp [*, qaC, qaB] <;> rfl), by (with_reducible repeat (first | apply Kd.R_alloc | apply Kd.R_drewN | apply Kd.R_drew)); exact HO_7.out, by repeat (first | (with_reducible first | exact HB.out | apply qac | apply qab | apply qag | refine qah ?_ qlx.out) | exact HB.out)⟩
     rw [if_neg c19] at H
     exact absurd H (by simp)
  rw [if_neg c5] at H
  exact absurd H (by simp)
 rw [if_neg c4] at H
 exact absurd H (by simp)
end Go.Proofs.Ytmhomdohhihlcaa.P
