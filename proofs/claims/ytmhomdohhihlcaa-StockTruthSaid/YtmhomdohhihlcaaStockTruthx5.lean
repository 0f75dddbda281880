/- What the statement StockTruth leans on, part 6 of 6: contracts of the program's functions; conditions: none. -/
import Derived.Deep.Slices
import Derived.ChangeSame
import Derived.OpenShut
import Derived.SizedLaws
import Derived.Lib.SmallJoins
import Derived.Test.YtmhomdohhihlcaaStockTruthx0
import Derived.Test.YtmhomdohhihlcaaStockTruthx1
import Derived.Test.YtmhomdohhihlcaaStockTruthx2
import Derived.Test.YtmhomdohhihlcaaStockTruthx3
import Derived.Test.YtmhomdohhihlcaaStockTruthx4
set_option linter.unusedVariables false
set_option linter.unusedSimpArgs false
set_option linter.constructorNameAsVariable false
set_option linter.unusedSectionVars false
namespace Go.Proofs.Ytmhomdohhihlcaa.P
open Go.RowKit Go.Proofs.YtmhomdohhihlcaaW.PrintWords Go.Proofs.YtmhomdohhihlcaaW.PrintLast Go.Proofs.YtmhomdohhihlcaaW.PrintMore
attribute [local go_sem] qb2 qb4 qcg qch qbQ qbR qb3 qb5
attribute [local go_sem high] qnG
mutual
def qak.j0 : Nat → List (S68) → List Int → Int → Int → Int → Bool → Int → Int → Option (Bool)
 | 0, _, _, _, _, _, _, _, _ => none
 | k + 1, x0, x2, x7, x8, x10, x39, qdx, qdy => if x39 = true then (if x10 = 90 then (if (qdx == 0 && (qdy == 0)) = true then ((qcb.f).bind fun t685 => (some t685)) else (some false)) else (some false)) else (qak.l0 k x0 x2 x7 x8 0 0 0 0 0 qdx qdy)
def qak.l0 : Nat → List (S68) → List Int → Int → Int → Int → Int → Int → Int → Int → Int → Int → Option (Bool)
 | 0, _, _, _, _, _, _, _, _, _, _, _ => none
 | k + 1, x0, x2, x7, x8, x11, x12, x13, x14, x15, qdx, qdy => if x15 < (x0.length : Int) then (if 0 ≤ x15 then ((qcL.f x2 x15).bind fun t687 => ((qcc.f t687 (wrap64 (((qaw x0 x15).f0) + 1))).bind fun t689 => ((qcL.f x2 (wrap64 (x15 + 1))).bind fun t692 => ((qbX.f ((qaw x0 x15).f1.f0) ((qaw x0 x15).f1.f1) t692).bind fun t693 => ((qba.f t693 x7 x8).bind fun t694 => (if t694 = true then (qak.j2 k x0 x2 x7 x8 (wrap64 (x11 + ((qaw x0 x15).f0))) (wrap64 (x12 + t689)) x13 x14 x15 t689 qdx qdy) else (qak.j2 k x0 x2 x7 x8 (wrap64 (x11 + ((qaw x0 x15).f0))) x12 x13 x14 x15 t689 qdx qdy))))))) else (none)) else ((qaL.f k x0 0 20).bind fun qj2 => (if qj2.2.2 = 0 then ((qaK.f x11 x11).bind fun qi0 => (if (qj2.1 == qi0.1 && (qj2.2.1 == qi0.2)) = true then ((qc0.f qdx qdy x12).bind fun t721 => (if t721 = true then ((qaK.f x13 x14).bind fun qfw => (if (qdx == qfw.1 && (qdy == qfw.2)) = true then ((qcb.f).bind fun t724 => (some t724)) else (some false))) else (some false))) else (some false))) else (some false)))
def qak.j2 : Nat → List (S68) → List Int → Int → Int → Int → Int → Int → Int → Int → Int → Int → Int → Option (Bool)
 | 0, _, _, _, _, _, _, _, _, _, _, _, _ => none
 | k + 1, x0, x2, x7, x8, x11, x12, x13, x14, x15, x16, qdx, qdy => if 0 ≤ x15 then (if x15 < (x0.length : Int) then ((qcL.f x2 (wrap64 (x15 + 2))).bind fun t697 => ((qbX.f ((qaw x0 x15).f1.f0) ((qaw x0 x15).f1.f1) t697).bind fun t698 => ((qba.f t698 x7 x8).bind fun t699 => (if t699 = true then (qak.j3 k x0 x2 x7 x8 x11 (wrap64 (x12 + (wrap64 (((qaw x0 x15).f0) - x16)))) x13 x14 x15 qdx qdy) else (qak.j3 k x0 x2 x7 x8 x11 x12 x13 x14 x15 qdx qdy))))) else (none)) else (none)
def qak.j3 : Nat → List (S68) → List Int → Int → Int → Int → Int → Int → Int → Int → Int → Int → Option (Bool)
 | 0, _, _, _, _, _, _, _, _, _, _, _ => none
 | k + 1, x0, x2, x7, x8, x11, x12, x13, x14, x15, qdx, qdy => if 0 ≤ x15 then (if x15 < (x0.length : Int) then ((qba.f ((qaw x0 x15).f1.f0) x7 x8).bind fun t702 => (if t702 = true then ((qba.f ((qaw x0 x15).f1.f1) x7 x8).bind fun t704 => (qak.j4 k x0 x2 x7 x8 x11 x12 x13 x14 x15 t704 qdx qdy)) else (qak.j4 k x0 x2 x7 x8 x11 x12 x13 x14 x15 false qdx qdy))) else (none)) else (none)
def qak.j4 : Nat → List (S68) → List Int → Int → Int → Int → Int → Int → Int → Int → Bool → Int → Int → Option (Bool)
 | 0, _, _, _, _, _, _, _, _, _, _, _, _ => none
 | k + 1, x0, x2, x7, x8, x11, x12, x13, x14, x15, x144, qdx, qdy => if x144 = true then (if 0 ≤ x15 then (if x15 < (x0.length : Int) then (qak.j5 k x0 x2 x7 x8 x11 x12 (wrap64 (x13 + ((qaw x0 x15).f0))) x14 x15 qdx qdy) else (none)) else (none)) else (qak.j5 k x0 x2 x7 x8 x11 x12 x13 x14 x15 qdx qdy)
def qak.j5 : Nat → List (S68) → List Int → Int → Int → Int → Int → Int → Int → Int → Int → Int → Option (Bool)
 | 0, _, _, _, _, _, _, _, _, _, _, _ => none
 | k + 1, x0, x2, x7, x8, x11, x12, x13, x14, x15, qdx, qdy => if 0 ≤ x15 then (if x15 < (x0.length : Int) then ((qba.f ((qaw x0 x15).f1.f0) x7 x8).bind fun t707 => (if t707 = true then (qak.l0 k x0 x2 x7 x8 x11 x12 x13 (wrap64 (x14 + ((qaw x0 x15).f0))) (wrap64 (x15 + 1)) qdx qdy) else ((qba.f ((qaw x0 x15).f1.f1) x7 x8).bind fun t710 => (if t710 = true then (qak.l0 k x0 x2 x7 x8 x11 x12 x13 (wrap64 (x14 + ((qaw x0 x15).f0))) (wrap64 (x15 + 1)) qdx qdy) else (if ((qaw x0 x15).f1.f0) < x7 then (if ((qaw x0 x15).f1.f1) > x8 then (qak.l0 k x0 x2 x7 x8 x11 x12 x13 (wrap64 (x14 + ((qaw x0 x15).f0))) (wrap64 (x15 + 1)) qdx qdy) else (qak.l0 k x0 x2 x7 x8 x11 x12 x13 x14 (wrap64 (x15 + 1)) qdx qdy)) else (qak.l0 k x0 x2 x7 x8 x11 x12 x13 x14 (wrap64 (x15 + 1)) qdx qdy)))))) else (none)) else (none)
end
def qak.f (k : Nat) (l0 : List (S68)) (a1_0 : Int) (a1_1 : Int) (l2 : List Int) : Option (Bool) := (qcc.f a1_0 21).bind fun t679 => ((qbX.f t679 20 a1_1).bind fun t680 => ((qaL.f k l0 t679 t680).bind fun qcY => (if qcY.2.2 = 0 then (qak.j0 k l0 l2 t679 t680 qcY.2.2 (decide ((l0.length : Int) > 20)) qcY.1 qcY.2.1) else (qak.j0 k l0 l2 t679 t680 qcY.2.2 true qcY.1 qcY.2.1))))
def qak.T11 : Bool × List (List Nat × List Nat) := (true, [([], []), ([], []), ([0, 1], [0, 1]), ([], []), ([], []), ([3, 4], [3, 4]), ([5], [5]), ([6], [6]), ([7], [7]), ([2, 8, 2], [2, 8]), ([9, 9, 0, 1, 2, 3, 4, 5, 6, 7, 8, 9], [9])])
def qak.B11 : List Nat := [0, 0, 3, 0, 0, 24, 56, 120, 248, 511, 1023]
theorem qak.tab11 : rtab .any (qi4 Try.f9 11) = qak.T11 := by kernel_rfl
theorem qak.bits11 : qfh qak.T11.2 qak.B11 = true := by kernel_rfl
def qak.T12 : Bool × List (List Nat × List Nat) := (true, [([], []), ([], []), ([0, 1], [0, 1]), ([2], [2]), ([3], [3]), ([4], [4]), ([], []), ([], []), ([6, 7], [6, 7]), ([8], [8]), ([9], [9]), ([10], [10]), ([], []), ([], []), ([13], [13]), ([12, 14], [12, 14]), ([5, 11, 15, 15], [5, 11, 15]), ([], []), ([], []), ([16, 17, 18, 16], [16, 17, 18])])
def qak.B12 : List Nat := [0, 0, 3, 7, 15, 31, 0, 0, 192, 448, 960, 1984, 0, 0, 8192, 28672, 65535, 0, 0, 524287]
theorem qak.tab12 : rtab .any (qi4 Try.f9 12) = qak.T12 := by kernel_rfl
theorem qak.bits12 : qfh qak.T12.2 qak.B12 = true := by kernel_rfl
def qak.T14 : Bool × List (List Nat × List Nat) := (true, [([], []), ([], []), ([0, 1], [0, 1]), ([2], [2]), ([3], [3]), ([4], [4]), ([], []), ([], []), ([6, 7], [6, 7]), ([8], [8]), ([9], [9]), ([10], [10]), ([], []), ([], []), ([13], [13]), ([12, 14], [12, 14]), ([5, 11, 15, 15], [5, 11, 15]), ([], []), ([], []), ([16, 17, 18, 16], [16, 17, 18])])
def qak.B14 : List Nat := [0, 0, 3, 7, 15, 31, 0, 0, 192, 448, 960, 1984, 0, 0, 8192, 28672, 65535, 0, 0, 524287]
theorem qak.tab14 : rtab .any (qi4 Try.f9 14) = qak.T14 := by kernel_rfl
theorem qak.bits14 : qfh qak.T14.2 qak.B14 = true := by kernel_rfl
def qak.T21 : Bool × List (List Nat × List Nat) := (true, [([], []), ([0], [0]), ([1], [1]), ([2], [2]), ([2], [2]), ([2], [2]), ([4, 5, 2, 2], [2, 4, 5]), ([3, 6, 2], [2, 3, 6]), ([2, 7], [2, 7]), ([8, 6], [8]), ([9], [9]), ([9], [9]), ([10, 11, 9, 9], [9, 10, 11]), ([9, 12], [9, 12]), ([13, 12], [13]), ([14], [14]), ([14], [14]), ([14], [14]), ([16, 17, 14, 14], [14, 16, 17]), ([15, 18, 14], [14, 15, 18]), ([14, 19], [14, 19]), ([20, 18], [20]), ([21, 21], [21]), ([21, 22], [21, 22]), ([23, 22, 0, 1, 2, 3, 4, 5, 6, 7, 8, 9, 10, 11, 12, 13, 14, 15, 16, 17, 18, 19, 20, 21, 22, 23], [23])])
def qak.B21 : List Nat := [0, 1, 3, 7, 7, 7, 55, 127, 255, 511, 1023, 1023, 4095, 8191, 16383, 32767, 32767, 32767, 229375, 524287, 1048575, 2097151, 4194303, 8388607, 16777215]
theorem qak.tab21 : rtab .any (qi4 Try.f9 21) = qak.T21 := by kernel_rfl
theorem qak.bits21 : qfh qak.T21.2 qak.B21 = true := by kernel_rfl
set_option maxHeartbeats 8000000 in
set_option maxRecDepth 100000 in
theorem qak.calls (k : Nat) (A0 : Option Addr) (c0 : Nat) (l0 : List (S68)) (a1_0 : Int) (a1_1 : Int) (A2 : Option Addr) (c2 : Nat) (l2 : List Int) (r : Bool) (w : World) (hr0 : Kd.C k68 w A0 l0.length l0) (hc0 : l0.length ≤ c0) (hr2 : Kd.C (Kd.int .i64) w A2 l2.length l2) (hc2 : l2.length ≤ c2) (h : qak.f k l0 a1_0 a1_1 l2 = some r) :
  Calls Try.prog 9 #[.slice A0 l0.length c0, .agg #[.int .i64 a1_0, .int .i64 a1_1], .slice A2 l2.length c2] w fun e w' => e = .returned (.bool r) ∧ Below w.heap.size w w' := by
 have hu23 := Try.underlying23
 have hu25 := Try.underlying25
 have HR0 := qaa.mk hr0
 have HC0 := qaa.mk hc0
 clear hr0 hc0
 have HR2 := qaa.mk hr2
 have HC2 := qaa.mk hc2
 clear hr2 hc2
 have HB := qaa.mk (Below.refl w.heap.size w)
 have H : ((qcc.f a1_0 21).bind fun t679 => ((qbX.f t679 20 a1_1).bind fun t680 => ((qaL.f k l0 t679 t680).bind fun qcY => (if qcY.2.2 = 0 then (qak.j0 k l0 l2 t679 t680 qcY.2.2 (decide ((l0.length : Int) > 20)) qcY.1 qcY.2.1) else (qak.j0 k l0 l2 t679 t680 qcY.2.2 true qcY.1 qcY.2.1))))) = some r := h
 clear h
 replace H := Option.bind_eq_some_iff.mp H
 obtain ⟨t679, A40, H⟩ := H
 replace H : ((qbX.f t679 20 a1_1).bind fun t680 => ((qaL.f k l0 t679 t680).bind fun qcY => (if qcY.2.2 = 0 then (qak.j0 k l0 l2 t679 t680 qcY.2.2 (decide ((l0.length : Int) > 20)) qcY.1 qcY.2.1) else (qak.j0 k l0 l2 t679 t680 qcY.2.2 true qcY.1 qcY.2.1)))) = some r := H
 have A4 := qaa.mk A40
 clear A40
 replace H := Option.bind_eq_some_iff.mp H
 obtain ⟨t680, A50, H⟩ := H
 replace H : ((qaL.f k l0 t679 t680).bind fun qcY => (if qcY.2.2 = 0 then (qak.j0 k l0 l2 t679 t680 qcY.2.2 (decide ((l0.length : Int) > 20)) qcY.1 qcY.2.1) else (qak.j0 k l0 l2 t679 t680 qcY.2.2 true qcY.1 qcY.2.1))) = some r := H
 have A5 := qaa.mk A50
 clear A50
 replace H := Option.bind_eq_some_iff.mp H
 obtain ⟨⟨t681, t682, t683⟩, A60, H⟩ := H
 replace H : (if t683 = 0 then (qak.j0 k l0 l2 t679 t680 t683 (decide ((l0.length : Int) > 20)) t681 t682) else (qak.j0 k l0 l2 t679 t680 t683 true t681 t682)) = some r := H
 have A6 := qaa.mk A60
 clear A60
 have HC7 := qaa.mk H
 clear H
 go_enter Try.func9, Try.ntmps9
 go_upto_region 4 with (first | ((with_reducible refine qa1 (N := 4) rfl ?_); (try (refine qdF (by rfl) ?_; dsimp only)); refine qbq ?hg (N := 4) ?hd (cs := #[.int .i64 a1_0, .int .i64 a1_1]) (t := 23) ?hr ?_; (case hd => rfl); (case hg => rfl); (case hr => first | (go_simp; done) | (go_simp; rfl)); intro qbP hg w8 hbox hb; have n0_ := qaa.mk (qaA (by repeat (first | (with_reducible first | exact HB.out | apply qag | apply qad | apply qah) | exact HB.out)) hb); have n1_ := qaa.mk (hbox); have n2_ := qaa.mk ((by rw [hg]; exact (qav (by repeat (first | (with_reducible first | exact HB.out | apply qag | apply qad | apply qah) | exact HB.out))) : w.heap.size ≤ qbP)); have n3_ := qaa.mk ((by rw [hg]; exact (qav (by repeat (first | (with_reducible first | exact HB.out | apply qag | apply qad | apply qah) | exact HB.out))) : w.heap.size ≤ qbP)); clear HB; have HB := n0_; have qaQ := n1_; have qCF := n2_; have qbM := n3_; clear n0_ n1_ n2_ n3_; clear hb hbox hg; have qdR : w8.cell? ⟨qbP, 0, none⟩ = some (.int .i64 a1_0) := (qai qaQ.out 0).trans rfl; have qdS : w8.cell? ⟨qbP, 1, none⟩ = some (.int .i64 a1_1) := (qai qaQ.out 1).trans rfl; have qdT := qaj qaQ.out 0; have qdU := qaj qaQ.out 1) | ((with_reducible refine qaT (f := 36) rfl ?_); refine qbs (some 21) rfl rfl Try.func36 (by kernel_rfl) rfl #[.int .i64 a1_0, .int .i64 21] rfl (by (try simp only [List.map_toArray, List.map_cons, List.map_nil]); first | done | rfl | (simp only [List.length_drop, List.length_take]; rfl)) ?_; (with_reducible refine (qcc.calls a1_0 21 t679 _ A4.out).mono ?_); rintro e w' ⟨rfl, ⟨nd, rfl⟩⟩; refine ⟨_, rfl, ?_⟩; (try (rw [qj4 w8]; generalize hq_ : World.drewN w8 _ = w8; have n0_ : qaa (w8.heap[qbP]? = some (.cells #[.int .i64 a1_0, .int .i64 a1_1] 23 (0, 0))) := ⟨by rw [← hq_]; exact (by (with_reducible repeat (first | refine qac ?_ _ | refine qae ?_ | refine qab ?_ _)); exact qaQ.out)⟩; have n1_ : qaa (Below w.heap.size w w8) := ⟨by rw [← hq_]; exact (by repeat (first | (with_reducible first | exact HB.out | apply qag | apply qad | apply qah | refine qaf ?_ qbM.out) | exact HB.out))⟩; clear qaQ HB hq_; have qaQ := n0_; have HB := n1_; clear n0_ n1_; have hcz9_1n : w8.cell? ⟨qbP, 1, none⟩ = some (.int .i64 a1_1) := (qai qaQ.out 1).trans rfl; have hfz9_1n := qaj qaQ.out 1))) | ((with_reducible refine qaT (f := 39) rfl ?_); refine qbs (some 25) rfl rfl Try.func39 (by kernel_rfl) rfl #[.int .i64 t679, .int .i64 20, .int .i64 a1_1] rfl (by (try simp only [List.map_toArray, List.map_cons, List.map_nil]); first | done | rfl | (simp only [List.length_drop, List.length_take]; rfl)) ?_; (with_reducible refine (qbX.calls t679 20 a1_1 t680 _ A5.out).mono ?_); rintro e w10 ⟨rfl, hb⟩; refine ⟨_, rfl, ?_⟩; have n0_ := qaa.mk (qar (g := qbP) (o := .cells #[.int .i64 a1_0, .int .i64 a1_1] 23 (0, 0)) (by (with_reducible repeat (first | refine qac ?_ _ | refine qae ?_ | refine qab ?_ _)); exact qaQ.out) hb); have n1_ := qaa.mk (qaA (by repeat (first | (with_reducible first | exact HB.out | apply qag | apply qad | apply qah | refine qaf ?_ qbM.out) | exact HB.out)) hb); clear qaQ; clear HB; have qaQ := n0_; have HB := n1_; clear n0_ n1_; (try clear hb); (try clear hb2); (try clear hk); (try clear hi)) | ((with_reducible refine qaT (f := 19) rfl ?_); refine qbs (some 30) rfl rfl Try.func19 (by kernel_rfl) rfl #[.slice A0 l0.length c0, .int .i64 t679, .int .i64 t680] rfl (by (try simp only [List.map_toArray, List.map_cons, List.map_nil]); first | done | rfl | (simp only [List.length_drop, List.length_take]; rfl)) ?_; (with_reducible refine (qaL.calls k _ _ l0 t679 t680 t681 t682 t683 _ ?side1 ?side2 A6.out).mono ?_); (case side1 => repeat (first | exact (Kd.C_below HR0.out HB.out) | (with_reducible refine Kd.C_alloc ?_ _) | (with_reducible refine Kd.C_drewN ?_ _) | (with_reducible refine Kd.C_drew ?_))); (case side2 => exact HC0.out); rintro e w11 ⟨rfl, hb⟩; refine ⟨_, rfl, ?_⟩; have n0_ := qaa.mk (qar (g := qbP) (o := .cells #[.int .i64 a1_0, .int .i64 a1_1] 23 (0, 0)) (by (with_reducible repeat (first | refine qac ?_ _ | refine qae ?_ | refine qab ?_ _)); exact qaQ.out) hb); have n1_ := qaa.mk (qaA (by repeat (first | (with_reducible first | exact HB.out | apply qag | apply qad | apply qah | refine qaf ?_ qbM.out) | exact HB.out)) hb); clear qaQ; clear HB; have qaQ := n0_; have HB := n1_; clear n0_ n1_; (try clear hb); (try clear hb2); (try clear hk); (try clear hi)) | ((with_reducible refine qa1 (N := 9) rfl ?_); (try (refine qdF (by rfl) ?_; dsimp only)); refine qbq ?hg (N := 9) ?hd (cs := #[.int .i64 0, .int .i64 0]) (t := 25) ?hr ?_; (case hd => rfl); (case hg => rfl); (case hr => first | (go_simp; done) | (go_simp; rfl)); intro qbJ hg w12 hbox hb; have n0_ := qaa.mk (qar (g := qbP) (o := .cells #[.int .i64 a1_0, .int .i64 a1_1] 23 (0, 0)) (by (with_reducible repeat (first | refine qac ?_ _ | refine qae ?_ | refine qab ?_ _)); exact qaQ.out) hb); have n1_ := qaa.mk (qaA (by repeat (first | (with_reducible first | exact HB.out | apply qag | apply qad | apply qah | refine qaf ?_ qbM.out) | exact HB.out)) hb); have n2_ := qaa.mk (hbox); have n3_ := qaa.mk ((by rw [hg]; exact (qav (by repeat (first | (with_reducible first | exact HB.out | apply qag | apply qad | apply qah | refine qaf ?_ qbM.out) | exact HB.out))) : w.heap.size ≤ qbJ)); have n4_ := qaa.mk ((by rw [hg]; exact (qav (by repeat (first | (with_reducible first | exact HB.out | apply qag | apply qad | apply qah | refine qaf ?_ qbM.out) | exact HB.out))) : w.heap.size ≤ qbJ)); have n5_ := qaa.mk ((by rw [hg]; exact Nat.ne_of_lt (qaN (g := qbP) (o := .cells #[.int .i64 a1_0, .int .i64 a1_1] 23 (0, 0)) (by (with_reducible repeat (first | refine qac ?_ _ | refine qae ?_ | refine qab ?_ _)); exact qaQ.out)) : qbP ≠ qbJ)); have n6_ := qaa.mk ((by rw [hg]; exact Nat.ne_of_gt (qaN (g := qbP) (o := .cells #[.int .i64 a1_0, .int .i64 a1_1] 23 (0, 0)) (by (with_reducible repeat (first | refine qac ?_ _ | refine qae ?_ | refine qab ?_ _)); exact qaQ.out)) : qbJ ≠ qbP)); clear qaQ; clear HB; have qaQ := n0_; have HB := n1_; have qaI := n2_; have qCG := n3_; have qbY := n4_; have qgf := n5_; have qki := n6_; clear n0_ n1_ n2_ n3_ n4_ n5_ n6_; clear hb hbox hg; have quE := qki.out; have quU := qgf.out; have qep : w12.cell? ⟨qbJ, 0, none⟩ = some (.int .i64 0) := (qai qaI.out 0).trans rfl; have qeq : w12.cell? ⟨qbJ, 1, none⟩ = some (.int .i64 0) := (qai qaI.out 1).trans rfl; have qet := qaj qaI.out 0; have qeu := qaj qaI.out 1))
 (try simp only [qaq, qam, qap, qao, qan])
 go_cut [39] (fun v39 wc => ∃ (kq : Nat) (qnK : Bool), v39 = .bool qnK ∧ qaa (qak.j0 kq l0 l2 t679 t680 t683 qnK t681 t682 = some r) ∧ qaa (kq ≤ k) ∧ qaa (wc.heap[qbP]? = some (.cells #[.int .i64 a1_0, .int .i64 a1_1] 23 (0, 0))) ∧ qaa (wc.heap[qbJ]? = some (.cells #[.int .i64 t681, .int .i64 t682] 25 (0, 0))) ∧ qaa (Below w.heap.size w wc))
 case first =>
  have H := HC7.out
  clear HC7
  by_cases c15 : t683 = 0
  ·
   rw [if_pos c15] at H
   have c15b0 : (t683 == 0) = true := beq_iff_eq.mpr c15
   have c15b1 : (t683 != 0) = false := bne_eq_false_iff_eq.mpr c15
   clear c15
   (first | rw [c15b0] | (simp only [qaB, qaC]; rw [c15b0]) | skip)
   have H' := qaa.mk H
   clear H
   go_wp2
   go_meet
   case rel => exact ⟨_, (decide ((l0.length : Int) > 20)), (by first | rfl | (simp; done) | (simp [*]; done)), H', ⟨by first | omega | exact Nat.le_refl _⟩, ⟨by (with_reducible repeat (first | refine qac ?_ _ | refine qae ?_ | refine qab ?_ _)); refine qau ?_ qgf.out _; (with_reducible repeat (first | refine qac ?_ _ | refine qae ?_ | refine qab ?_ _)); refine qau ?_ qgf.out _; (with_reducible repeat (first | refine qac ?_ _ | refine qae ?_ | refine qab ?_ _)); exact qaQ.out⟩, ⟨by (with_reducible repeat (first | refine qac ?_ _ | refine qae ?_ | refine qab ?_ _)); refine qaH (cs := #[.int .i64 t681, .int .i64 0]) ?_ 1 _ rfl; (with_reducible repeat (first | refine qac ?_ _ | refine qae ?_ | refine qab ?_ _)); refine qaH (cs := #[.int .i64 0, .int .i64 0]) ?_ 0 _ rfl; (with_reducible repeat (first | refine qac ?_ _ | refine qae ?_ | refine qab ?_ _)); exact qaI.out⟩, ⟨by repeat (first | (with_reducible first | exact HB.out | apply qag | apply qad | apply qah | refine qaf ?_ qbM.out | refine qaf ?_ qbY.out) | exact HB.out)⟩⟩
  rw [if_neg c15] at H
  have c15b0 : (t683 == 0) = false := beq_eq_false_iff_ne.mpr c15
  have c15b1 : (t683 != 0) = true := bne_iff_ne.mpr c15
  (first | rw [c15b0] | (simp only [qaB, qaC]; rw [c15b0]) | skip)
  have H' := qaa.mk H
  clear H
  go_wp2
  go_meet
  case rel => exact ⟨_, (true), (by first | rfl | (simp; done) | (simp [*]; done)), H', ⟨by first | omega | exact Nat.le_refl _⟩, ⟨by (with_reducible repeat (first | refine qac ?_ _ | refine qae ?_ | refine qab ?_ _)); refine qau ?_ qgf.out _; (with_reducible repeat (first | refine qac ?_ _ | refine qae ?_ | refine qab ?_ _)); refine qau ?_ qgf.out _; (with_reducible repeat (first | refine qac ?_ _ | refine qae ?_ | refine qab ?_ _)); exact qaQ.out⟩, ⟨by (with_reducible repeat (first | refine qac ?_ _ | refine qae ?_ | refine qab ?_ _)); refine qaH (cs := #[.int .i64 t681, .int .i64 0]) ?_ 1 _ rfl; (with_reducible repeat (first | refine qac ?_ _ | refine qae ?_ | refine qab ?_ _)); refine qaH (cs := #[.int .i64 0, .int .i64 0]) ?_ 0 _ rfl; (with_reducible repeat (first | refine qac ?_ _ | refine qae ?_ | refine qab ?_ _)); exact qaI.out⟩, ⟨by repeat (first | (with_reducible first | exact HB.out | apply qag | apply qad | apply qah | refine qaf ?_ qbM.out | refine qaf ?_ qbY.out) | exact HB.out)⟩⟩
 clear HC7
 try clear c1
 try clear c2
 try clear p2
 try clear c3
 try clear c9
 try clear c13
 try clear c15
 try clear c15b0
 try clear c15b1
 try clear qep
 try clear qeq
 try clear qdR
 try clear qdS
 try clear qet
 try clear qeu
 try clear qdT
 try clear qdU
 obtain ⟨kq, qnK, rfl, HA, HJ6, qaQ, qaI, HB⟩ := hcut
 cases kq with
 | zero => exact absurd HA.out (by simp [qak.j0])
 | succ kj6 =>
  have H := HA.out
  clear HA
  simp only [qak.j0] at H
  by_cases c16 : qnK = true
  ·
   as_aux_lemma =>
   subst c16
   have H1 : (if t683 = 90 then (if (t681 == 0 && (t682 == 0)) = true then ((qcb.f).bind fun t685 => (some t685)) else (some false)) else (some false)) = some r := by rw [if_pos rfl] at H; exact H
   clear H
   have H := H1
   clear H1
   by_cases c17 : t683 = 90
   ·
    as_aux_lemma =>
    rw [if_pos c17] at H; have c17b0 : (t683 == 90) = true := beq_iff_eq.mpr c17; have c17b1 : (t683 != 90) = false := bne_eq_false_iff_eq.mpr c17; clear c17
    by_cases c18 : (t681 == 0 && (t682 == 0)) = true
    ·
     as_aux_lemma =>
     rw [if_pos c18] at H; have c18b0 : (t681 == 0 && (t682 == 0)) = true := c18
     (try (have c18b1 : decide (t681 = 0 && (t682 == 0)) = true := by simpa using c18))
     (try (have c18b2 : (t681 == 0 && (t682 == 0)) = true := by simpa using c18))
     clear c18; replace H := Option.bind_eq_some_iff.mp H; obtain ⟨t685, A190, H⟩ := H; replace H : (some t685) = some r := H; have A19 := qaa.mk A190; clear A190; obtain rfl := Option.some.inj H; have qru := qki.out; have qrw := qgf.out; have qer : wc.cell? ⟨qbJ, 0, none⟩ = some (.int .i64 t681) := (qai qaI.out 0).trans rfl; have qes : wc.cell? ⟨qbJ, 1, none⟩ = some (.int .i64 t682) := (qai qaI.out 1).trans rfl; have qev := qaj qaI.out 0; have qew := qaj qaI.out 1
     go_wp2_with (first | (go_at_call 21; (with_reducible refine (qcb.calls  t685 _ A19.out).mono ?_); rintro e w22 ⟨rfl, hb⟩; have n0_ := qaa.mk (qar (g := qbP) (o := .cells #[.int .i64 a1_0, .int .i64 a1_1] 23 (0, 0)) (by (with_reducible repeat (first | refine qac ?_ _ | refine qae ?_ | refine qab ?_ _)); exact qaQ.out) hb); have n1_ := qaa.mk (qar (g := qbJ) (o := .cells #[.int .i64 t681, .int .i64 t682] 25 (0, 0)) (by (with_reducible repeat (first | refine qac ?_ _ | refine qae ?_ | refine qab ?_ _)); exact qaI.out) hb); have n2_ := qaa.mk (qaA (by repeat (first | (with_reducible first | exact HB.out | apply qag | apply qad | apply qah | refine qaf ?_ qbM.out | refine qaf ?_ qbY.out) | exact HB.out)) hb); clear qaQ; clear qaI; clear HB; have qaQ := n0_; have qaI := n1_; have HB := n2_; clear n0_ n1_ n2_; (try clear hb); (try clear hb2); (try clear hk); (try clear hi)))
     go_ret
     exact ⟨by first | rfl | (simp [qaO, qaP] <;> rfl) | (simp [*, qaO, qaP] <;> rfl), by repeat (first | (with_reducible first | exact HB.out | apply qag | apply qad | apply qah | refine qaf ?_ qbM.out | refine qaf ?_ qbY.out) | exact HB.out)⟩
    as_aux_lemma =>
    rw [if_neg c18] at H
    have c18b0 : (t681 == 0 && (t682 == 0)) = false := by simpa using c18
    (try (have c18b1 : decide (t681 = 0 && (t682 == 0)) = false := by simpa using c18))
    (try (have c18b2 : (t681 == 0 && (t682 == 0)) = false := by simpa using c18))
    (try (have c18b3 : ¬ (t681 = 0 && (t682 == 0)) := by simpa using c18))
    clear c18; obtain rfl := Option.some.inj H; have qDg := qki.out; have qDU := qgf.out; have qiw : wc.cell? ⟨qbJ, 0, none⟩ = some (.int .i64 t681) := (qai qaI.out 0).trans rfl; have qix : wc.cell? ⟨qbJ, 1, none⟩ = some (.int .i64 t682) := (qai qaI.out 1).trans rfl; have qiB := qaj qaI.out 0; have qiC := qaj qaI.out 1
    go_wp2
    go_ret
    exact ⟨by first | rfl | (simp [qaO, qaP] <;> rfl) | (simp [*, qaO, qaP] <;> rfl), by repeat (first | (with_reducible first | exact HB.out | apply qag | apply qad | apply qah | refine qaf ?_ qbM.out | refine qaf ?_ qbY.out) | exact HB.out)⟩
   rw [if_neg c17] at H
   have c17b0 : (t683 == 90) = false := beq_eq_false_iff_ne.mpr c17
   have c17b1 : (t683 != 90) = true := bne_iff_ne.mpr c17
   obtain rfl := Option.some.inj H
   go_wp2
   go_ret
   exact ⟨by first | rfl | (simp [qaO, qaP] <;> rfl) | (simp [*, qaO, qaP] <;> rfl), by repeat (first | (with_reducible first | exact HB.out | apply qag | apply qad | apply qah | refine qaf ?_ qbM.out | refine qaf ?_ qbY.out) | exact HB.out)⟩
  as_aux_lemma =>
  replace c16 := Bool.eq_false_iff.mpr c16
  subst c16
  have H1 : (qak.l0 kj6 l0 l2 t679 t680 0 0 0 0 0 t681 t682) = some r := by rw [if_neg (show ¬ (false = true) by decide)] at H; exact H
  clear H
  have H := H1
  clear H1
  have H' := qaa.mk H
  clear H
  go_wp2
  go_loopg [11, 12, 13, 14, 15] kj6 (fun kq v11 v12 v13 v14 v15 w' => ∃ (qbH : Int) (qd5 : Int) (qcN : Int) (qbV : Int) (qat : Int), v11 = .int .i64 qbH ∧ v12 = .int .i64 qd5 ∧ v13 = .int .i64 qcN ∧ v14 = .int .i64 qbV ∧ v15 = .int .i64 qat ∧ qaa (qak.l0 kq l0 l2 t679 t680 qbH qd5 qcN qbV qat t681 t682 = some r) ∧ qaa (kq ≤ kj6) ∧ qaa (w'.heap[qbP]? = some (.cells #[.int .i64 a1_0, .int .i64 a1_1] 23 (0, 0))) ∧ qaa (w'.heap[qbJ]? = some (.cells #[.int .i64 t681, .int .i64 t682] 25 (0, 0))) ∧ qaa (Below w.heap.size w w'))
  case atStart => exact ⟨(0), (0), (0), (0), (0), (by first | rfl | (simp; done) | (simp [*]; done)), (by first | rfl | (simp; done) | (simp [*]; done)), (by first | rfl | (simp; done) | (simp [*]; done)), (by first | rfl | (simp; done) | (simp [*]; done)), (by first | rfl | (simp; done) | (simp [*]; done)), H', ⟨Nat.le_refl _⟩, ⟨by (with_reducible repeat (first | refine qac ?_ _ | refine qae ?_ | refine qab ?_ _)); exact qaQ.out⟩, ⟨by (with_reducible repeat (first | refine qac ?_ _ | refine qae ?_ | refine qab ?_ _)); exact qaI.out⟩, ⟨by repeat (first | (with_reducible first | exact HB.out | apply qag | apply qad | apply qah | refine qaf ?_ qbM.out | refine qaf ?_ qbY.out) | exact HB.out)⟩⟩
  clear H'
  try clear c1
  try clear c2
  try clear p2
  try clear c3
  try clear c9
  try clear c13
  try clear c15
  try clear c15b0
  try clear c15b1
  try clear c16
  try clear c17
  try clear c17b0
  try clear c17b1
  try clear c18
  try clear c18b0
  try clear c18b1
  try clear c18b2
  try clear c19
  try clear c20
  try clear c23
  try clear qep
  try clear qeq
  try clear qer
  try clear qes
  try clear qiw
  try clear qix
  try clear qdR
  try clear qdS
  try clear qet
  try clear qeu
  try clear qev
  try clear qew
  try clear qiB
  try clear qiC
  try clear qdT
  try clear qdU
  try clear p2
  obtain ⟨qbH, qd5, qcN, qbV, qat, rfl, rfl, rfl, rfl, rfl, HA, HK2, qaQ, qaI, HB⟩ := hrel
  cases gk with
  | zero => exact absurd HA.out (by simp [qak.l0])
  | succ k2 =>
   have H := HA.out
   clear HA
   simp only [qak.l0] at H
   by_cases c25 : qat < (l0.length : Int)
   ·
    as_aux_lemma =>
    rw [if_pos c25] at H; have c25b0 : decide (qat < (l0.length : Int)) = true := decide_eq_true c25; clear c25
    by_cases c26 : 0 ≤ qat
    ·
     as_aux_lemma =>
     rw [if_pos c26] at H; have c26b0 : decide (0 ≤ qat) = true := decide_eq_true c26; clear c26; replace H := Option.bind_eq_some_iff.mp H; obtain ⟨t687, A270, H⟩ := H; replace H : ((qcc.f t687 (wrap64 (((qaw l0 qat).f0) + 1))).bind fun t689 => ((qcL.f l2 (wrap64 (qat + 1))).bind fun t692 => ((qbX.f ((qaw l0 qat).f1.f0) ((qaw l0 qat).f1.f1) t692).bind fun t693 => ((qba.f t693 t679 t680).bind fun t694 => (if t694 = true then (qak.j2 k2 l0 l2 t679 t680 (wrap64 (qbH + ((qaw l0 qat).f0))) (wrap64 (qd5 + t689)) qcN qbV qat t689 t681 t682) else (qak.j2 k2 l0 l2 t679 t680 (wrap64 (qbH + ((qaw l0 qat).f0))) qd5 qcN qbV qat t689 t681 t682)))))) = some r := H; have A27 := qaa.mk A270; clear A270; replace H := Option.bind_eq_some_iff.mp H; obtain ⟨t689, A280, H⟩ := H; replace H : ((qcL.f l2 (wrap64 (qat + 1))).bind fun t692 => ((qbX.f ((qaw l0 qat).f1.f0) ((qaw l0 qat).f1.f1) t692).bind fun t693 => ((qba.f t693 t679 t680).bind fun t694 => (if t694 = true then (qak.j2 k2 l0 l2 t679 t680 (wrap64 (qbH + ((qaw l0 qat).f0))) (wrap64 (qd5 + t689)) qcN qbV qat t689 t681 t682) else (qak.j2 k2 l0 l2 t679 t680 (wrap64 (qbH + ((qaw l0 qat).f0))) qd5 qcN qbV qat t689 t681 t682))))) = some r := H; have A28 := qaa.mk A280; clear A280; replace H := Option.bind_eq_some_iff.mp H; obtain ⟨t692, A290, H⟩ := H; replace H : ((qbX.f ((qaw l0 qat).f1.f0) ((qaw l0 qat).f1.f1) t692).bind fun t693 => ((qba.f t693 t679 t680).bind fun t694 => (if t694 = true then (qak.j2 k2 l0 l2 t679 t680 (wrap64 (qbH + ((qaw l0 qat).f0))) (wrap64 (qd5 + t689)) qcN qbV qat t689 t681 t682) else (qak.j2 k2 l0 l2 t679 t680 (wrap64 (qbH + ((qaw l0 qat).f0))) qd5 qcN qbV qat t689 t681 t682)))) = some r := H; have A29 := qaa.mk A290; clear A290; replace H := Option.bind_eq_some_iff.mp H; obtain ⟨t693, A300, H⟩ := H; replace H : ((qba.f t693 t679 t680).bind fun t694 => (if t694 = true then (qak.j2 k2 l0 l2 t679 t680 (wrap64 (qbH + ((qaw l0 qat).f0))) (wrap64 (qd5 + t689)) qcN qbV qat t689 t681 t682) else (qak.j2 k2 l0 l2 t679 t680 (wrap64 (qbH + ((qaw l0 qat).f0))) qd5 qcN qbV qat t689 t681 t682))) = some r := H; have A30 := qaa.mk A300; clear A300; replace H := Option.bind_eq_some_iff.mp H; obtain ⟨t694, A310, H⟩ := H; replace H : (if t694 = true then (qak.j2 k2 l0 l2 t679 t680 (wrap64 (qbH + ((qaw l0 qat).f0))) (wrap64 (qd5 + t689)) qcN qbV qat t689 t681 t682) else (qak.j2 k2 l0 l2 t679 t680 (wrap64 (qbH + ((qaw l0 qat).f0))) qd5 qcN qbV qat t689 t681 t682)) = some r := H; have A31 := qaa.mk A310; clear A310; have HC32 := qaa.mk H; clear H; have p686 : 0 ≤ (qat : Int) := of_decide_eq_true (by first | (with_reducible assumption) | assumption); have q686 : qat < (l0.length : Int) := of_decide_eq_true (by first | (with_reducible assumption) | assumption); obtain ⟨qck, e686, qhT, qhU, qhV⟩ := qcZ HR0.out qat p686 q686; cases e686; replace qhT := (HB.out.cell (World.block_lt_of_cell? w _ qhT)).trans qhT; replace qhU := (HB.out.cell (World.block_lt_of_cell? w _ qhU)).trans qhU; replace qhV := (HB.out.cell (World.block_lt_of_cell? w _ qhV)).trans qhV; replace p686 := eq_true p686; replace q686 := eq_true q686
     try go_wp2
     have n0_ := qaa.mk (qae qaQ.out); have n1_ := qaa.mk (qae qaI.out); have n2_ := qaa.mk (qah HB.out); clear qaQ qaI HB; have qaQ := n0_; have qaI := n1_; have HB := n2_; clear n0_ n1_ n2_; have p688 : 0 ≤ (qat : Int) := of_decide_eq_true (by first | (with_reducible assumption) | assumption); have q688 : qat < (l0.length : Int) := of_decide_eq_true (by first | (with_reducible assumption) | assumption); obtain ⟨quq, e688, qgw, qgx, qgy⟩ := qcZ HR0.out qat p688 q688; have qiF := qgy; have qiE := qgx; have qiD := qgw; obtain rfl : qck = quq := (by injection e688); replace qgw := (HB.out.cell (World.block_lt_of_cell? w _ qgw)).trans qgw; replace qgx := (HB.out.cell (World.block_lt_of_cell? w _ qgx)).trans qgx; replace qgy := (HB.out.cell (World.block_lt_of_cell? w _ qgy)).trans qgy; replace p688 := eq_true p688; replace q688 := eq_true q688; refine qfM (n := 11) (S := fun w' => w'.cell? (qck.add ((qat).toNat * 3)) = some (.int .i64 ((qaw l0 qat).f0)) ∧ w'.cell? ⟨(qck.add ((qat).toNat * 3)).block, (qck.add ((qat).toNat * 3)).off + 1, none⟩ = some (.int .i64 ((qaw l0 qat).f1.f0)) ∧ w'.cell? ⟨(qck.add ((qat).toNat * 3)).block, (qck.add ((qat).toNat * 3)).off + 2, none⟩ = some (.int .i64 ((qaw l0 qat).f1.f1))) (ds := []) (qas 11 0) (by kernel_rfl) rfl rfl ⟨((HB.out.cell (World.block_lt_of_cell? w _ qiD)).trans qiD), ((HB.out.cell (World.block_lt_of_cell? w _ qiE)).trans qiE), ((HB.out.cell (World.block_lt_of_cell? w _ qiF)).trans qiF)⟩ (fun hHeld => ?_); refine qel qak.tab11 qak.bits11 (fun HT_ HW_ => ?_)
     generalize wr.drew = w33 at qaQ qaI HB qgw qgx qgy hHeld ⊢
     refine qax 0 (some 63) (qas 11 1) rfl rfl HT_.out (by kernel_rfl) (fun _ _ _ h => h) ⟨.inl ⟨by rfl, fun w' => by go_simp; with_reducible rfl⟩, by simp only [qaq, qam, qap, qao, qan, qaB, qaC]; rfl, ?_⟩; refine qax 1 (some 64) (qas 11 3) rfl rfl HT_.out (by kernel_rfl) (fun _ _ _ h => h) ⟨.inl ⟨by rfl, fun w' => by go_simp; with_reducible rfl⟩, by simp only [qaq, qam, qap, qao, qan, qaB, qaC]; rfl, ?_⟩; refine qax 3 (some 66) (qas 11 11) rfl rfl HT_.out (by kernel_rfl) (fun _ _ _ h => h) ⟨.inl ⟨by rfl, fun w' => by go_simp; with_reducible rfl⟩, by simp only [qaq, qam, qap, qao, qan, qaB, qaC]; rfl, ?_⟩; refine qax 4 (some 67) (qas 11 27) rfl rfl HT_.out (by kernel_rfl) (fun _ _ _ h => h) ⟨.inl ⟨by rfl, fun w' => by go_simp; with_reducible rfl⟩, by simp only [qaq, qam, qap, qao, qan, qaB, qaC]; rfl, ?_⟩; refine qax 5 (some 68) (qas 11 59) rfl rfl HT_.out (by kernel_rfl) (fun _ _ _ h => h) ⟨.inl ⟨by rfl, fun w' => by go_simp; with_reducible rfl⟩, by simp only [qaq, qam, qap, qao, qan, qaB, qaC]; rfl, ?_⟩; refine qax 6 (some 69) (qas 11 123) rfl rfl HT_.out (by kernel_rfl) (fun _ _ _ h => h) ⟨.inl ⟨by rfl, fun w' => by go_simp; with_reducible rfl⟩, by simp only [qaq, qam, qap, qao, qan, qaB, qaC]; rfl, ?_⟩; refine qcD 7 (some 70) (qas 11 251) rfl rfl (qcE HT_.out HW_.out (by kernel_rfl)) (fun _ _ _ h => h) hHeld ⟨.inl ⟨by rfl, by rintro w' ⟨s0, s1, s2⟩; go_simp; with_reducible rfl⟩, by simp only [qaq, qam, qap, qao, qan, qaB, qaC]; rfl, ?_⟩; refine qax 8 (some 71) (qas 11 507) rfl rfl HT_.out (by kernel_rfl) (fun _ _ _ h => h) ⟨.inl ⟨by rfl, fun w' => by go_simp; with_reducible rfl⟩, by simp only [qaq, qam, qap, qao, qan, qaB, qaC]; rfl, ?_⟩; refine one_ (i := 2) (N := some 65) (qas 11 511) rfl rfl (qdd HT_.out (by kernel_rfl)) (by decide) (fun K hK => ?_); refine qd4 Try.func42 (by kernel_rfl) rfl #[.slice A2 l2.length c2, .int .i64 qat] (by rfl) rfl rfl (by (try simp only [List.map_toArray, List.map_cons, List.map_nil]); first | done | rfl | (simp only [List.length_drop, List.length_take]; rfl)) ?_
     with_reducible refine (qcL.calls _ _ l2 qat t687 _ ?side1 ?side2 A27.out).mono ?_
     (case side1 => repeat (first | exact (Kd.C_below HR2.out HB.out) | (with_reducible refine Kd.C_alloc ?_ _) | (with_reducible refine Kd.C_drewN ?_ _) | (with_reducible refine Kd.C_drew ?_)))
     (case side2 => exact HC2.out)
     rintro e w' ⟨rfl, ⟨nd, rfl⟩⟩; refine ⟨_, rfl, ?_⟩; refine hK.out _ _ ⟨((HB.out.cell (World.block_lt_of_cell? w _ qiD)).trans qiD), ((HB.out.cell (World.block_lt_of_cell? w _ qiE)).trans qiE), ((HB.out.cell (World.block_lt_of_cell? w _ qiF)).trans qiF)⟩ (fun hHeld => ?_); clear hK K; refine qcX (a' := ?_) ?_ ?_; rotate_left
     ·
      show Act.put _ (some 65) _ = _
      simp only [qaq, qam, qap, qao, qan, qaB, qaC]; rfl
     refine one_ (i := 9) (N := some 72) (qas 11 1023) rfl rfl (qdd HT_.out (by kernel_rfl)) (by decide) (fun K hK => ?_); refine qd4 Try.func36 (by kernel_rfl) rfl #[.int .i64 t687, .int .i64 (wrap64 (((qaw l0 qat).f0) + 1))] (by rfl) rfl rfl (by (try simp only [List.map_toArray, List.map_cons, List.map_nil]); first | done | rfl | (simp only [List.length_drop, List.length_take]; rfl)) ?_
     with_reducible refine (qcc.calls t687 (wrap64 (((qaw l0 qat).f0) + 1)) t689 _ A28.out).mono ?_
     rintro e w' ⟨rfl, ⟨nd, rfl⟩⟩; refine ⟨_, rfl, ?_⟩; refine hK.out _ _ ⟨((HB.out.cell (World.block_lt_of_cell? w _ qiD)).trans qiD), ((HB.out.cell (World.block_lt_of_cell? w _ qiE)).trans qiE), ((HB.out.cell (World.block_lt_of_cell? w _ qiF)).trans qiF)⟩ (fun hHeld => ?_); clear hK K; refine qcX (a' := ?_) ?_ ?_; rotate_left
     ·
      show Act.put _ (some 72) _ = _
      simp only [qaq, qam, qap, qao, qan, qaB, qaC]; rfl
     refine qax 10 (some 16) (qas 11 2047) rfl rfl HT_.out (by kernel_rfl) (fun _ _ _ h => h) ⟨.inl ⟨by rfl, fun w' => by go_simp; with_reducible rfl⟩, by simp only [qaq, qam, qap, qao, qan, qaB, qaC]; rfl, ?_⟩; refine qgo (qe9 HT_.out (by kernel_rfl)) ?_
     try go_wp2
     (try (rw [qj4 w33]; generalize hq_ : World.drewN w33 _ = w33; have n0_ : qaa (w33.heap[qbP]? = some (.cells #[.int .i64 a1_0, .int .i64 a1_1] 23 (0, 0))) := ⟨by rw [← hq_]; exact (by (with_reducible repeat (first | refine qac ?_ _ | refine qae ?_ | refine qab ?_ _)); exact qaQ.out)⟩; have n1_ : qaa (w33.heap[qbJ]? = some (.cells #[.int .i64 t681, .int .i64 t682] 25 (0, 0))) := ⟨by rw [← hq_]; exact (by (with_reducible repeat (first | refine qac ?_ _ | refine qae ?_ | refine qab ?_ _)); exact qaI.out)⟩; have n2_ : qaa (Below w.heap.size w w33) := ⟨by rw [← hq_]; exact (by repeat (first | (with_reducible first | exact HB.out | apply qag | apply qad | apply qah | refine qaf ?_ qbM.out | refine qaf ?_ qbY.out) | exact HB.out))⟩; clear qaQ qaI HB hq_; have qaQ := n0_; have qaI := n1_; have HB := n2_; clear n0_ n1_ n2_))
     have n0_ := qaa.mk (qae qaQ.out); have n1_ := qaa.mk (qae qaI.out); have n2_ := qaa.mk (qah HB.out); clear qaQ qaI HB; have qaQ := n0_; have qaI := n1_; have HB := n2_; clear n0_ n1_ n2_; have p690 : 0 ≤ (qat : Int) := of_decide_eq_true (by first | (with_reducible assumption) | assumption); have q690 : qat < (l0.length : Int) := of_decide_eq_true (by first | (with_reducible assumption) | assumption); obtain ⟨qur, e690, qgz, qgA, qgB⟩ := qcZ HR0.out qat p690 q690; have qhe := qgB; have qhd := qgA; have qhc := qgz; obtain rfl : qck = qur := (by injection e690); replace qgz := (HB.out.cell (World.block_lt_of_cell? w _ qgz)).trans qgz; replace qgA := (HB.out.cell (World.block_lt_of_cell? w _ qgA)).trans qgA; replace qgB := (HB.out.cell (World.block_lt_of_cell? w _ qgB)).trans qgB; replace p690 := eq_true p690; replace q690 := eq_true q690; have p691 : 0 ≤ (qat : Int) := of_decide_eq_true (by first | (with_reducible assumption) | assumption); have q691 : qat < (l0.length : Int) := of_decide_eq_true (by first | (with_reducible assumption) | assumption); obtain ⟨qus, e691, qgC, qgD, qgE⟩ := qcZ HR0.out qat p691 q691; have qhh := qgE; have qhg := qgD; have qhf := qgC; obtain rfl : qck = qus := (by injection e691); replace qgC := (HB.out.cell (World.block_lt_of_cell? w _ qgC)).trans qgC; replace qgD := (HB.out.cell (World.block_lt_of_cell? w _ qgD)).trans qgD; replace qgE := (HB.out.cell (World.block_lt_of_cell? w _ qgE)).trans qgE; replace p691 := eq_true p691; replace q691 := eq_true q691; refine qfM (n := 20) (S := fun w' => w'.cell? (qck.add ((qat).toNat * 3)) = some (.int .i64 ((qaw l0 qat).f0)) ∧ w'.cell? ⟨(qck.add ((qat).toNat * 3)).block, (qck.add ((qat).toNat * 3)).off + 1, none⟩ = some (.int .i64 ((qaw l0 qat).f1.f0)) ∧ w'.cell? ⟨(qck.add ((qat).toNat * 3)).block, (qck.add ((qat).toNat * 3)).off + 2, none⟩ = some (.int .i64 ((qaw l0 qat).f1.f1)) ∧ w'.cell? (qck.add ((qat).toNat * 3)) = some (.int .i64 ((qaw l0 qat).f0)) ∧ w'.cell? ⟨(qck.add ((qat).toNat * 3)).block, (qck.add ((qat).toNat * 3)).off + 1, none⟩ = some (.int .i64 ((qaw l0 qat).f1.f0)) ∧ w'.cell? ⟨(qck.add ((qat).toNat * 3)).block, (qck.add ((qat).toNat * 3)).off + 2, none⟩ = some (.int .i64 ((qaw l0 qat).f1.f1))) (ds := []) (qas 20 0) (by kernel_rfl) rfl rfl ⟨((HB.out.cell (World.block_lt_of_cell? w _ qhc)).trans qhc), ((HB.out.cell (World.block_lt_of_cell? w _ qhd)).trans qhd), ((HB.out.cell (World.block_lt_of_cell? w _ qhe)).trans qhe), ((HB.out.cell (World.block_lt_of_cell? w _ qhf)).trans qhf), ((HB.out.cell (World.block_lt_of_cell? w _ qhg)).trans qhg), ((HB.out.cell (World.block_lt_of_cell? w _ qhh)).trans qhh)⟩ (fun hHeld => ?_); refine qel qak.tab12 qak.bits12 (fun HT_ HW_ => ?_)
     generalize w33.drew = w34 at qaQ qaI HB qgz qgA qgB qgC qgD qgE hHeld ⊢
     refine qax 0 (some 73) (qas 20 1) rfl rfl HT_.out (by kernel_rfl) (fun _ _ _ h => h) ⟨.inl ⟨by rfl, fun w' => by go_simp; with_reducible rfl⟩, by simp only [qaq, qam, qap, qao, qan, qaB, qaC]; rfl, ?_⟩; refine qax 1 (some 74) (qas 20 3) rfl rfl HT_.out (by kernel_rfl) (fun _ _ _ h => h) ⟨.inl ⟨by rfl, fun w' => by go_simp; with_reducible rfl⟩, by simp only [qaq, qam, qap, qao, qan, qaB, qaC]; rfl, ?_⟩; refine qax 2 (some 75) (qas 20 7) rfl rfl HT_.out (by kernel_rfl) (fun _ _ _ h => h) ⟨.inl ⟨by rfl, fun w' => by go_simp; with_reducible rfl⟩, by simp only [qaq, qam, qap, qao, qan, qaB, qaC]; rfl, ?_⟩; refine qax 3 (some 76) (qas 20 15) rfl rfl HT_.out (by kernel_rfl) (fun _ _ _ h => h) ⟨.inl ⟨by rfl, fun w' => by go_simp; with_reducible rfl⟩, by simp only [qaq, qam, qap, qao, qan, qaB, qaC]; rfl, ?_⟩; refine qax 4 (some 77) (qas 20 31) rfl rfl HT_.out (by kernel_rfl) (fun _ _ _ h => h) ⟨.inl ⟨by rfl, fun w' => by go_simp; with_reducible rfl⟩, by simp only [qaq, qam, qap, qao, qan, qaB, qaC]; rfl, ?_⟩; refine qax 6 (some 79) (qas 20 95) rfl rfl HT_.out (by kernel_rfl) (fun _ _ _ h => h) ⟨.inl ⟨by rfl, fun w' => by go_simp; with_reducible rfl⟩, by simp only [qaq, qam, qap, qao, qan, qaB, qaC]; rfl, ?_⟩; refine qax 7 (some 80) (qas 20 223) rfl rfl HT_.out (by kernel_rfl) (fun _ _ _ h => h) ⟨.inl ⟨by rfl, fun w' => by go_simp; with_reducible rfl⟩, by simp only [qaq, qam, qap, qao, qan, qaB, qaC]; rfl, ?_⟩; refine qax 8 (some 81) (qas 20 479) rfl rfl HT_.out (by kernel_rfl) (fun _ _ _ h => h) ⟨.inl ⟨by rfl, fun w' => by go_simp; with_reducible rfl⟩, by simp only [qaq, qam, qap, qao, qan, qaB, qaC]; rfl, ?_⟩; refine qax 9 (some 82) (qas 20 991) rfl rfl HT_.out (by kernel_rfl) (fun _ _ _ h => h) ⟨.inl ⟨by rfl, fun w' => by go_simp; with_reducible rfl⟩, by simp only [qaq, qam, qap, qao, qan, qaB, qaC]; rfl, ?_⟩; refine qax 10 (some 83) (qas 20 2015) rfl rfl HT_.out (by kernel_rfl) (fun _ _ _ h => h) ⟨.inl ⟨by rfl, fun w' => by go_simp; with_reducible rfl⟩, by simp only [qaq, qam, qap, qao, qan, qaB, qaC]; rfl, ?_⟩; refine qax 12 (some 85) (qas 20 6111) rfl rfl HT_.out (by kernel_rfl) (fun _ _ _ h => h) ⟨.inl ⟨by rfl, fun w' => by go_simp; with_reducible rfl⟩, by simp only [qaq, qam, qap, qao, qan, qaB, qaC]; rfl, ?_⟩; refine qax 13 (some 86) (qas 20 14303) rfl rfl HT_.out (by kernel_rfl) (fun _ _ _ h => h) ⟨.inl ⟨by rfl, fun w' => by go_simp; with_reducible rfl⟩, by simp only [qaq, qam, qap, qao, qan, qaB, qaC]; rfl, ?_⟩; refine qax 14 (some 87) (qas 20 30687) rfl rfl HT_.out (by kernel_rfl) (fun _ _ _ h => h) ⟨.inl ⟨by rfl, fun w' => by go_simp; with_reducible rfl⟩, by simp only [qaq, qam, qap, qao, qan, qaB, qaC]; rfl, ?_⟩; refine qax 17 (some 90) (qas 20 161759) rfl rfl HT_.out (by kernel_rfl) (fun _ _ _ h => h) ⟨.inl ⟨by rfl, fun w' => by go_simp; with_reducible rfl⟩, by simp only [qaq, qam, qap, qao, qan, qaB, qaC]; rfl, ?_⟩; refine qax 18 (some 91) (qas 20 423903) rfl rfl HT_.out (by kernel_rfl) (fun _ _ _ h => h) ⟨.inl ⟨by rfl, fun w' => by go_simp; with_reducible rfl⟩, by simp only [qaq, qam, qap, qao, qan, qaB, qaC]; rfl, ?_⟩; refine qcD 5 (some 78) (qas 20 423935) rfl rfl (qcE HT_.out HW_.out (by kernel_rfl)) (fun _ _ _ h => h) hHeld ⟨.inl ⟨by rfl, by rintro w' ⟨s0, s1, s2, s3, s4, s5⟩; go_simp; with_reducible rfl⟩, by simp only [qaq, qam, qap, qao, qan, qaB, qaC]; rfl, ?_⟩; refine qcD 11 (some 84) (qas 20 425983) rfl rfl (qcE HT_.out HW_.out (by kernel_rfl)) (fun _ _ _ h => h) hHeld ⟨.inl ⟨by rfl, by rintro w' ⟨s0, s1, s2, s3, s4, s5⟩; go_simp; with_reducible rfl⟩, by simp only [qaq, qam, qap, qao, qan, qaB, qaC]; rfl, ?_⟩; refine one_ (i := 15) (N := some 88) (qas 20 458751) rfl rfl (qdd HT_.out (by kernel_rfl)) (by decide) (fun K hK => ?_); refine qd4 Try.func42 (by kernel_rfl) rfl #[.slice A2 l2.length c2, .int .i64 (wrap64 (qat + 1))] (by rfl) rfl rfl (by (try simp only [List.map_toArray, List.map_cons, List.map_nil]); first | done | rfl | (simp only [List.length_drop, List.length_take]; rfl)) ?_
     with_reducible refine (qcL.calls _ _ l2 (wrap64 (qat + 1)) t692 _ ?side1 ?side2 A29.out).mono ?_
     (case side1 => repeat (first | exact (Kd.C_below HR2.out HB.out) | (with_reducible refine Kd.C_alloc ?_ _) | (with_reducible refine Kd.C_drewN ?_ _) | (with_reducible refine Kd.C_drew ?_)))
     (case side2 => exact HC2.out)
     rintro e w' ⟨rfl, ⟨nd, rfl⟩⟩; refine ⟨_, rfl, ?_⟩; refine hK.out _ _ ⟨((HB.out.cell (World.block_lt_of_cell? w _ qhc)).trans qhc), ((HB.out.cell (World.block_lt_of_cell? w _ qhd)).trans qhd), ((HB.out.cell (World.block_lt_of_cell? w _ qhe)).trans qhe), ((HB.out.cell (World.block_lt_of_cell? w _ qhf)).trans qhf), ((HB.out.cell (World.block_lt_of_cell? w _ qhg)).trans qhg), ((HB.out.cell (World.block_lt_of_cell? w _ qhh)).trans qhh)⟩ (fun hHeld => ?_); clear hK K; refine qcX (a' := ?_) ?_ ?_; rotate_left
     ·
      show Act.put _ (some 88) _ = _
      simp only [qaq, qam, qap, qao, qan, qaB, qaC]; rfl
     refine one_ (i := 16) (N := some 89) (qas 20 524287) rfl rfl (qdd HT_.out (by kernel_rfl)) (by decide) (fun K hK => ?_); refine qd4 Try.func39 (by kernel_rfl) rfl #[.int .i64 ((qaw l0 qat).f1.f0), .int .i64 ((qaw l0 qat).f1.f1), .int .i64 t692] (by rfl) rfl rfl (by (try simp only [List.map_toArray, List.map_cons, List.map_nil]); first | done | rfl | (simp only [List.length_drop, List.length_take]; rfl)) ?_
     with_reducible refine (qbX.calls ((qaw l0 qat).f1.f0) ((qaw l0 qat).f1.f1) t692 t693 _ A30.out).mono ?_
     rintro e w35 ⟨rfl, hb⟩; refine ⟨_, rfl, ?_⟩; have n0_ := qaa.mk (qar (g := qbP) (o := .cells #[.int .i64 a1_0, .int .i64 a1_1] 23 (0, 0)) (by (with_reducible repeat (first | refine qac ?_ _ | refine qae ?_ | refine qab ?_ _)); exact qaQ.out) hb); have n1_ := qaa.mk (qar (g := qbJ) (o := .cells #[.int .i64 t681, .int .i64 t682] 25 (0, 0)) (by (with_reducible repeat (first | refine qac ?_ _ | refine qae ?_ | refine qab ?_ _)); exact qaI.out) hb); have n2_ := qaa.mk (qaA (by repeat (first | (with_reducible first | exact HB.out | apply qag | apply qad | apply qah | refine qaf ?_ qbM.out | refine qaf ?_ qbY.out) | exact HB.out)) hb); clear qaQ qaI HB; have qaQ := n0_; have qaI := n1_; have HB := n2_; clear n0_ n1_ n2_
     (try clear hb)
     (try clear hb2)
     (try clear hk)
     (try clear hi)
     refine hK.out _ _ ⟨((HB.out.cell (World.block_lt_of_cell? w _ qhc)).trans qhc), ((HB.out.cell (World.block_lt_of_cell? w _ qhd)).trans qhd), ((HB.out.cell (World.block_lt_of_cell? w _ qhe)).trans qhe), ((HB.out.cell (World.block_lt_of_cell? w _ qhf)).trans qhf), ((HB.out.cell (World.block_lt_of_cell? w _ qhg)).trans qhg), ((HB.out.cell (World.block_lt_of_cell? w _ qhh)).trans qhh)⟩ (fun hHeld => ?_); clear hK K; refine qcX (a' := ?_) ?_ ?_; rotate_left
     ·
      show Act.put _ (some 89) _ = _
      simp only [qaq, qam, qap, qao, qan, qaB, qaC]; rfl
     refine one_ (i := 19) (N := some 92) (qas 20 1048575) rfl rfl (qdd HT_.out (by kernel_rfl)) (by decide) (fun K hK => ?_); refine qd4 Try.func34 (by kernel_rfl) rfl #[.int .i64 t693, .int .i64 t679, .int .i64 t680] (by rfl) rfl rfl (by (try simp only [List.map_toArray, List.map_cons, List.map_nil]); first | done | rfl | (simp only [List.length_drop, List.length_take]; rfl)) ?_
     with_reducible refine (qba.calls t693 t679 t680 t694 _ A31.out).mono ?_
     rintro e w' ⟨rfl, ⟨nd, rfl⟩⟩; refine ⟨_, rfl, ?_⟩; refine hK.out _ _ ⟨((HB.out.cell (World.block_lt_of_cell? w _ qhc)).trans qhc), ((HB.out.cell (World.block_lt_of_cell? w _ qhd)).trans qhd), ((HB.out.cell (World.block_lt_of_cell? w _ qhe)).trans qhe), ((HB.out.cell (World.block_lt_of_cell? w _ qhf)).trans qhf), ((HB.out.cell (World.block_lt_of_cell? w _ qhg)).trans qhg), ((HB.out.cell (World.block_lt_of_cell? w _ qhh)).trans qhh)⟩ (fun hHeld => ?_); clear hK K; refine qcX (a' := ?_) ?_ ?_; rotate_left
     ·
      show Act.put _ (some 92) _ = _
      simp only [qaq, qam, qap, qao, qan, qaB, qaC]; rfl
     refine qgo (qe9 HT_.out (by kernel_rfl)) ?_
     go_upto_if 92 with (fail)
     go_cut [12] (fun v12 wc => ∃ (kq : Nat) (qfN : Int), v12 = .int .i64 qfN ∧ qaa (qak.j2 kq l0 l2 t679 t680 (wrap64 (qbH + ((qaw l0 qat).f0))) qfN qcN qbV qat t689 t681 t682 = some r) ∧ qaa (kq ≤ k2) ∧ qaa (wc.heap[qbP]? = some (.cells #[.int .i64 a1_0, .int .i64 a1_1] 23 (0, 0))) ∧ qaa (wc.heap[qbJ]? = some (.cells #[.int .i64 t681, .int .i64 t682] 25 (0, 0))) ∧ qaa (Below w.heap.size w wc))
     case first =>
      have H := HC32.out; clear HC32
      by_cases c36 : t694 = true
      ·
       subst c36
       have H1 : (qak.j2 k2 l0 l2 t679 t680 (wrap64 (qbH + ((qaw l0 qat).f0))) (wrap64 (qd5 + t689)) qcN qbV qat t689 t681 t682) = some r := by rw [if_pos rfl] at H; exact H
       clear H; have H := H1; clear H1; have H' := qaa.mk H; clear H
       go_wp2
       go_meet
       case rel => exact ⟨_, (wrap64 (qd5 + t689)), (by first | rfl | (simp; done) | (simp [*]; done)), H', ⟨by have := HJ6.out; have := HK2.out; first | omega | exact Nat.le_refl _⟩, ⟨by (with_reducible repeat (first | refine qac ?_ _ | refine qae ?_ | refine qab ?_ _)); exact qaQ.out⟩, ⟨by (with_reducible repeat (first | refine qac ?_ _ | refine qae ?_ | refine qab ?_ _)); exact qaI.out⟩, ⟨by repeat (first | (with_reducible first | exact HB.out | apply qag | apply qad | apply qah | refine qaf ?_ qbM.out | refine qaf ?_ qbY.out) | exact HB.out)⟩⟩
      replace c36 := Bool.eq_false_iff.mpr c36; subst c36
      have H1 : (qak.j2 k2 l0 l2 t679 t680 (wrap64 (qbH + ((qaw l0 qat).f0))) qd5 qcN qbV qat t689 t681 t682) = some r := by rw [if_neg (show ¬ (false = true) by decide)] at H; exact H
      clear H; have H := H1; clear H1; have H' := qaa.mk H; clear H
      go_wp2
      go_meet
      case rel => exact ⟨_, (qd5), (by first | rfl | (simp; done) | (simp [*]; done)), H', ⟨by have := HJ6.out; have := HK2.out; first | omega | exact Nat.le_refl _⟩, ⟨by (with_reducible repeat (first | refine qac ?_ _ | refine qae ?_ | refine qab ?_ _)); exact qaQ.out⟩, ⟨by (with_reducible repeat (first | refine qac ?_ _ | refine qae ?_ | refine qab ?_ _)); exact qaI.out⟩, ⟨by repeat (first | (with_reducible first | exact HB.out | apply qag | apply qad | apply qah | refine qaf ?_ qbM.out | refine qaf ?_ qbY.out) | exact HB.out)⟩⟩
     clear HC32; (try clear c1); (try clear c2); (try clear p2); (try clear c3); (try clear c4); (try clear p6); (try clear q6); (try clear hx6); (try clear c9); (try clear c13); (try clear c15); (try clear c15b0); (try clear c15b1); (try clear c16); (try clear c17); (try clear c17b0); (try clear c17b1); (try clear c18); (try clear c18b0); (try clear c18b1); (try clear c18b2); (try clear c19); (try clear c20); (try clear c23); (try clear c25); (try clear c25b0); (try clear c26); (try clear c26b0); (try clear c34); (try clear c36); (try clear qep); (try clear qeq); (try clear qer); (try clear qes); (try clear qiw); (try clear qix); (try clear qdR); (try clear qdS); (try clear qet); (try clear qeu); (try clear qev); (try clear qew); (try clear qiB); (try clear qiC); (try clear qdT); (try clear qdU); (try clear qhT); (try clear qhU); (try clear qhV); (try clear qgw); (try clear qgx); (try clear qgy); (try clear qgz); (try clear qgA); (try clear qgB); (try clear qgC); (try clear qgD); (try clear qgE); (try clear p2); (try clear p686); (try clear p688); (try clear p690); (try clear p691); (try clear q686); (try clear q688); (try clear q690); (try clear q691); obtain ⟨kq, qfN, rfl, HA, HJ31, qaQ, qaI, HB⟩ := hcut
     cases kq with
     | zero => exact absurd HA.out (by simp [qak.j2])
     | succ kj31 =>
      have H := HA.out; clear HA; simp only [qak.j2] at H
      by_cases c37 : 0 ≤ qat
      ·
       as_aux_lemma =>
       rw [if_pos c37] at H; have c37b0 : decide (0 ≤ qat) = true := decide_eq_true c37; clear c37
       by_cases c38 : qat < (l0.length : Int)
       ·
        as_aux_lemma =>
        rw [if_pos c38] at H; have c38b0 : decide (qat < (l0.length : Int)) = true := decide_eq_true c38; clear c38; replace H := Option.bind_eq_some_iff.mp H; obtain ⟨t697, A390, H⟩ := H; replace H : ((qbX.f ((qaw l0 qat).f1.f0) ((qaw l0 qat).f1.f1) t697).bind fun t698 => ((qba.f t698 t679 t680).bind fun t699 => (if t699 = true then (qak.j3 kj31 l0 l2 t679 t680 (wrap64 (qbH + ((qaw l0 qat).f0))) (wrap64 (qfN + (wrap64 (((qaw l0 qat).f0) - t689)))) qcN qbV qat t681 t682) else (qak.j3 kj31 l0 l2 t679 t680 (wrap64 (qbH + ((qaw l0 qat).f0))) qfN qcN qbV qat t681 t682)))) = some r := H; have A39 := qaa.mk A390; clear A390; replace H := Option.bind_eq_some_iff.mp H; obtain ⟨t698, A400, H⟩ := H; replace H : ((qba.f t698 t679 t680).bind fun t699 => (if t699 = true then (qak.j3 kj31 l0 l2 t679 t680 (wrap64 (qbH + ((qaw l0 qat).f0))) (wrap64 (qfN + (wrap64 (((qaw l0 qat).f0) - t689)))) qcN qbV qat t681 t682) else (qak.j3 kj31 l0 l2 t679 t680 (wrap64 (qbH + ((qaw l0 qat).f0))) qfN qcN qbV qat t681 t682))) = some r := H; have A40 := qaa.mk A400; clear A400; replace H := Option.bind_eq_some_iff.mp H; obtain ⟨t699, A410, H⟩ := H; replace H : (if t699 = true then (qak.j3 kj31 l0 l2 t679 t680 (wrap64 (qbH + ((qaw l0 qat).f0))) (wrap64 (qfN + (wrap64 (((qaw l0 qat).f0) - t689)))) qcN qbV qat t681 t682) else (qak.j3 kj31 l0 l2 t679 t680 (wrap64 (qbH + ((qaw l0 qat).f0))) qfN qcN qbV qat t681 t682)) = some r := H; have A41 := qaa.mk A410; clear A410; have HC42 := qaa.mk H; clear H
        try go_wp2
        have n0_ := qaa.mk (qae qaQ.out); have n1_ := qaa.mk (qae qaI.out); have n2_ := qaa.mk (qah HB.out); clear qaQ qaI HB; have qaQ := n0_; have qaI := n1_; have HB := n2_; clear n0_ n1_ n2_; have p695 : 0 ≤ (qat : Int) := of_decide_eq_true (by first | (with_reducible assumption) | assumption); have q695 : qat < (l0.length : Int) := of_decide_eq_true (by first | (with_reducible assumption) | assumption); obtain ⟨qut, e695, qhq, qhr, qhs⟩ := qcZ HR0.out qat p695 q695; have qhk := qhs; have qhj := qhr; have qhi := qhq; obtain rfl : qck = qut := (by injection e695); replace qhq := (HB.out.cell (World.block_lt_of_cell? w _ qhq)).trans qhq; replace qhr := (HB.out.cell (World.block_lt_of_cell? w _ qhr)).trans qhr; replace qhs := (HB.out.cell (World.block_lt_of_cell? w _ qhs)).trans qhs; replace p695 := eq_true p695; replace q695 := eq_true q695; have p696 : 0 ≤ (qat : Int) := of_decide_eq_true (by first | (with_reducible assumption) | assumption); have q696 : qat < (l0.length : Int) := of_decide_eq_true (by first | (with_reducible assumption) | assumption); obtain ⟨quu, e696, qht, qhu, qhv⟩ := qcZ HR0.out qat p696 q696; have qhn := qhv; have qhm := qhu; have qhl := qht; obtain rfl : qck = quu := (by injection e696); replace qht := (HB.out.cell (World.block_lt_of_cell? w _ qht)).trans qht; replace qhu := (HB.out.cell (World.block_lt_of_cell? w _ qhu)).trans qhu; replace qhv := (HB.out.cell (World.block_lt_of_cell? w _ qhv)).trans qhv; replace p696 := eq_true p696; replace q696 := eq_true q696; refine qfM (n := 20) (S := fun w' => w'.cell? (qck.add ((qat).toNat * 3)) = some (.int .i64 ((qaw l0 qat).f0)) ∧ w'.cell? ⟨(qck.add ((qat).toNat * 3)).block, (qck.add ((qat).toNat * 3)).off + 1, none⟩ = some (.int .i64 ((qaw l0 qat).f1.f0)) ∧ w'.cell? ⟨(qck.add ((qat).toNat * 3)).block, (qck.add ((qat).toNat * 3)).off + 2, none⟩ = some (.int .i64 ((qaw l0 qat).f1.f1)) ∧ w'.cell? (qck.add ((qat).toNat * 3)) = some (.int .i64 ((qaw l0 qat).f0)) ∧ w'.cell? ⟨(qck.add ((qat).toNat * 3)).block, (qck.add ((qat).toNat * 3)).off + 1, none⟩ = some (.int .i64 ((qaw l0 qat).f1.f0)) ∧ w'.cell? ⟨(qck.add ((qat).toNat * 3)).block, (qck.add ((qat).toNat * 3)).off + 2, none⟩ = some (.int .i64 ((qaw l0 qat).f1.f1))) (ds := []) (qas 20 0) (by kernel_rfl) rfl rfl ⟨((HB.out.cell (World.block_lt_of_cell? w _ qhi)).trans qhi), ((HB.out.cell (World.block_lt_of_cell? w _ qhj)).trans qhj), ((HB.out.cell (World.block_lt_of_cell? w _ qhk)).trans qhk), ((HB.out.cell (World.block_lt_of_cell? w _ qhl)).trans qhl), ((HB.out.cell (World.block_lt_of_cell? w _ qhm)).trans qhm), ((HB.out.cell (World.block_lt_of_cell? w _ qhn)).trans qhn)⟩ (fun hHeld => ?_); refine qel qak.tab14 qak.bits14 (fun HT_ HW_ => ?_)
        generalize wc.drew = w43 at qaQ qaI HB qhq qhr qhs qht qhu qhv hHeld ⊢
        refine qax 0 (some 96) (qas 20 1) rfl rfl HT_.out (by kernel_rfl) (fun _ _ _ h => h) ⟨.inl ⟨by rfl, fun w' => by go_simp; with_reducible rfl⟩, by simp only [qaq, qam, qap, qao, qan, qaB, qaC]; rfl, ?_⟩; refine qax 1 (some 97) (qas 20 3) rfl rfl HT_.out (by kernel_rfl) (fun _ _ _ h => h) ⟨.inl ⟨by rfl, fun w' => by go_simp; with_reducible rfl⟩, by simp only [qaq, qam, qap, qao, qan, qaB, qaC]; rfl, ?_⟩; refine qax 2 (some 98) (qas 20 7) rfl rfl HT_.out (by kernel_rfl) (fun _ _ _ h => h) ⟨.inl ⟨by rfl, fun w' => by go_simp; with_reducible rfl⟩, by simp only [qaq, qam, qap, qao, qan, qaB, qaC]; rfl, ?_⟩; refine qax 3 (some 99) (qas 20 15) rfl rfl HT_.out (by kernel_rfl) (fun _ _ _ h => h) ⟨.inl ⟨by rfl, fun w' => by go_simp; with_reducible rfl⟩, by simp only [qaq, qam, qap, qao, qan, qaB, qaC]; rfl, ?_⟩; refine qax 4 (some 100) (qas 20 31) rfl rfl HT_.out (by kernel_rfl) (fun _ _ _ h => h) ⟨.inl ⟨by rfl, fun w' => by go_simp; with_reducible rfl⟩, by simp only [qaq, qam, qap, qao, qan, qaB, qaC]; rfl, ?_⟩; refine qax 6 (some 102) (qas 20 95) rfl rfl HT_.out (by kernel_rfl) (fun _ _ _ h => h) ⟨.inl ⟨by rfl, fun w' => by go_simp; with_reducible rfl⟩, by simp only [qaq, qam, qap, qao, qan, qaB, qaC]; rfl, ?_⟩; refine qax 7 (some 103) (qas 20 223) rfl rfl HT_.out (by kernel_rfl) (fun _ _ _ h => h) ⟨.inl ⟨by rfl, fun w' => by go_simp; with_reducible rfl⟩, by simp only [qaq, qam, qap, qao, qan, qaB, qaC]; rfl, ?_⟩; refine qax 8 (some 104) (qas 20 479) rfl rfl HT_.out (by kernel_rfl) (fun _ _ _ h => h) ⟨.inl ⟨by rfl, fun w' => by go_simp; with_reducible rfl⟩, by simp only [qaq, qam, qap, qao, qan, qaB, qaC]; rfl, ?_⟩; refine qax 9 (some 105) (qas 20 991) rfl rfl HT_.out (by kernel_rfl) (fun _ _ _ h => h) ⟨.inl ⟨by rfl, fun w' => by go_simp; with_reducible rfl⟩, by simp only [qaq, qam, qap, qao, qan, qaB, qaC]; rfl, ?_⟩; refine qax 10 (some 106) (qas 20 2015) rfl rfl HT_.out (by kernel_rfl) (fun _ _ _ h => h) ⟨.inl ⟨by rfl, fun w' => by go_simp; with_reducible rfl⟩, by simp only [qaq, qam, qap, qao, qan, qaB, qaC]; rfl, ?_⟩; refine qax 12 (some 108) (qas 20 6111) rfl rfl HT_.out (by kernel_rfl) (fun _ _ _ h => h) ⟨.inl ⟨by rfl, fun w' => by go_simp; with_reducible rfl⟩, by simp only [qaq, qam, qap, qao, qan, qaB, qaC]; rfl, ?_⟩; refine qax 13 (some 109) (qas 20 14303) rfl rfl HT_.out (by kernel_rfl) (fun _ _ _ h => h) ⟨.inl ⟨by rfl, fun w' => by go_simp; with_reducible rfl⟩, by simp only [qaq, qam, qap, qao, qan, qaB, qaC]; rfl, ?_⟩; refine qax 14 (some 110) (qas 20 30687) rfl rfl HT_.out (by kernel_rfl) (fun _ _ _ h => h) ⟨.inl ⟨by rfl, fun w' => by go_simp; with_reducible rfl⟩, by simp only [qaq, qam, qap, qao, qan, qaB, qaC]; rfl, ?_⟩; refine qax 17 (some 113) (qas 20 161759) rfl rfl HT_.out (by kernel_rfl) (fun _ _ _ h => h) ⟨.inl ⟨by rfl, fun w' => by go_simp; with_reducible rfl⟩, by simp only [qaq, qam, qap, qao, qan, qaB, qaC]; rfl, ?_⟩; refine qax 18 (some 114) (qas 20 423903) rfl rfl HT_.out (by kernel_rfl) (fun _ _ _ h => h) ⟨.inl ⟨by rfl, fun w' => by go_simp; with_reducible rfl⟩, by simp only [qaq, qam, qap, qao, qan, qaB, qaC]; rfl, ?_⟩; refine qcD 5 (some 101) (qas 20 423935) rfl rfl (qcE HT_.out HW_.out (by kernel_rfl)) (fun _ _ _ h => h) hHeld ⟨.inl ⟨by rfl, by rintro w' ⟨s0, s1, s2, s3, s4, s5⟩; go_simp; with_reducible rfl⟩, by simp only [qaq, qam, qap, qao, qan, qaB, qaC]; rfl, ?_⟩; refine qcD 11 (some 107) (qas 20 425983) rfl rfl (qcE HT_.out HW_.out (by kernel_rfl)) (fun _ _ _ h => h) hHeld ⟨.inl ⟨by rfl, by rintro w' ⟨s0, s1, s2, s3, s4, s5⟩; go_simp; with_reducible rfl⟩, by simp only [qaq, qam, qap, qao, qan, qaB, qaC]; rfl, ?_⟩; refine one_ (i := 15) (N := some 111) (qas 20 458751) rfl rfl (qdd HT_.out (by kernel_rfl)) (by decide) (fun K hK => ?_); refine qd4 Try.func42 (by kernel_rfl) rfl #[.slice A2 l2.length c2, .int .i64 (wrap64 (qat + 2))] (by rfl) rfl rfl (by (try simp only [List.map_toArray, List.map_cons, List.map_nil]); first | done | rfl | (simp only [List.length_drop, List.length_take]; rfl)) ?_
        with_reducible refine (qcL.calls _ _ l2 (wrap64 (qat + 2)) t697 _ ?side1 ?side2 A39.out).mono ?_
        (case side1 => repeat (first | exact (Kd.C_below HR2.out HB.out) | (with_reducible refine Kd.C_alloc ?_ _) | (with_reducible refine Kd.C_drewN ?_ _) | (with_reducible refine Kd.C_drew ?_)))
        (case side2 => exact HC2.out)
        rintro e w' ⟨rfl, ⟨nd, rfl⟩⟩; refine ⟨_, rfl, ?_⟩; refine hK.out _ _ ⟨((HB.out.cell (World.block_lt_of_cell? w _ qhi)).trans qhi), ((HB.out.cell (World.block_lt_of_cell? w _ qhj)).trans qhj), ((HB.out.cell (World.block_lt_of_cell? w _ qhk)).trans qhk), ((HB.out.cell (World.block_lt_of_cell? w _ qhl)).trans qhl), ((HB.out.cell (World.block_lt_of_cell? w _ qhm)).trans qhm), ((HB.out.cell (World.block_lt_of_cell? w _ qhn)).trans qhn)⟩ (fun hHeld => ?_); clear hK K; refine qcX (a' := ?_) ?_ ?_; rotate_left
        ·
         show Act.put _ (some 111) _ = _
         simp only [qaq, qam, qap, qao, qan, qaB, qaC]; rfl
        refine one_ (i := 16) (N := some 112) (qas 20 524287) rfl rfl (qdd HT_.out (by kernel_rfl)) (by decide) (fun K hK => ?_); refine qd4 Try.func39 (by kernel_rfl) rfl #[.int .i64 ((qaw l0 qat).f1.f0), .int .i64 ((qaw l0 qat).f1.f1), .int .i64 t697] (by rfl) rfl rfl (by (try simp only [List.map_toArray, List.map_cons, List.map_nil]); first | done | rfl | (simp only [List.length_drop, List.length_take]; rfl)) ?_
        with_reducible refine (qbX.calls ((qaw l0 qat).f1.f0) ((qaw l0 qat).f1.f1) t697 t698 _ A40.out).mono ?_
        rintro e w44 ⟨rfl, hb⟩; refine ⟨_, rfl, ?_⟩; have n0_ := qaa.mk (qar (g := qbP) (o := .cells #[.int .i64 a1_0, .int .i64 a1_1] 23 (0, 0)) (by (with_reducible repeat (first | refine qac ?_ _ | refine qae ?_ | refine qab ?_ _)); exact qaQ.out) hb); have n1_ := qaa.mk (qar (g := qbJ) (o := .cells #[.int .i64 t681, .int .i64 t682] 25 (0, 0)) (by (with_reducible repeat (first | refine qac ?_ _ | refine qae ?_ | refine qab ?_ _)); exact qaI.out) hb); have n2_ := qaa.mk (qaA (by repeat (first | (with_reducible first | exact HB.out | apply qag | apply qad | apply qah | refine qaf ?_ qbM.out | refine qaf ?_ qbY.out) | exact HB.out)) hb); clear qaQ qaI HB; have qaQ := n0_; have qaI := n1_; have HB := n2_; clear n0_ n1_ n2_
        (try clear hb)
        (try clear hb2)
        (try clear hk)
        (try clear hi)
        refine hK.out _ _ ⟨((HB.out.cell (World.block_lt_of_cell? w _ qhi)).trans qhi), ((HB.out.cell (World.block_lt_of_cell? w _ qhj)).trans qhj), ((HB.out.cell (World.block_lt_of_cell? w _ qhk)).trans qhk), ((HB.out.cell (World.block_lt_of_cell? w _ qhl)).trans qhl), ((HB.out.cell (World.block_lt_of_cell? w _ qhm)).trans qhm), ((HB.out.cell (World.block_lt_of_cell? w _ qhn)).trans qhn)⟩ (fun hHeld => ?_); clear hK K; refine qcX (a' := ?_) ?_ ?_; rotate_left
        ·
         show Act.put _ (some 112) _ = _
         simp only [qaq, qam, qap, qao, qan, qaB, qaC]; rfl
        refine one_ (i := 19) (N := some 115) (qas 20 1048575) rfl rfl (qdd HT_.out (by kernel_rfl)) (by decide) (fun K hK => ?_); refine qd4 Try.func34 (by kernel_rfl) rfl #[.int .i64 t698, .int .i64 t679, .int .i64 t680] (by rfl) rfl rfl (by (try simp only [List.map_toArray, List.map_cons, List.map_nil]); first | done | rfl | (simp only [List.length_drop, List.length_take]; rfl)) ?_
        with_reducible refine (qba.calls t698 t679 t680 t699 _ A41.out).mono ?_
        rintro e w' ⟨rfl, ⟨nd, rfl⟩⟩; refine ⟨_, rfl, ?_⟩; refine hK.out _ _ ⟨((HB.out.cell (World.block_lt_of_cell? w _ qhi)).trans qhi), ((HB.out.cell (World.block_lt_of_cell? w _ qhj)).trans qhj), ((HB.out.cell (World.block_lt_of_cell? w _ qhk)).trans qhk), ((HB.out.cell (World.block_lt_of_cell? w _ qhl)).trans qhl), ((HB.out.cell (World.block_lt_of_cell? w _ qhm)).trans qhm), ((HB.out.cell (World.block_lt_of_cell? w _ qhn)).trans qhn)⟩ (fun hHeld => ?_); clear hK K; refine qcX (a' := ?_) ?_ ?_; rotate_left
        ·
         show Act.put _ (some 115) _ = _
         simp only [qaq, qam, qap, qao, qan, qaB, qaC]; rfl
        refine qgo (qe9 HT_.out (by kernel_rfl)) ?_
        go_upto_if 115 with (fail)
        go_cut [12] (fun v12 wc => ∃ (kq : Nat) (qcP : Int), v12 = .int .i64 qcP ∧ qaa (qak.j3 kq l0 l2 t679 t680 (wrap64 (qbH + ((qaw l0 qat).f0))) qcP qcN qbV qat t681 t682 = some r) ∧ qaa (kq ≤ kj31) ∧ qaa (wc.heap[qbP]? = some (.cells #[.int .i64 a1_0, .int .i64 a1_1] 23 (0, 0))) ∧ qaa (wc.heap[qbJ]? = some (.cells #[.int .i64 t681, .int .i64 t682] 25 (0, 0))) ∧ qaa (Below w.heap.size w wc))
        case first =>
         have H := HC42.out; clear HC42
         by_cases c45 : t699 = true
         ·
          as_aux_lemma =>
          subst c45
          have H1 : (qak.j3 kj31 l0 l2 t679 t680 (wrap64 (qbH + ((qaw l0 qat).f0))) (wrap64 (qfN + (wrap64 (((qaw l0 qat).f0) - t689)))) qcN qbV qat t681 t682) = some r := by rw [if_pos rfl] at H; exact H
          clear H; have H := H1; clear H1; have H' := qaa.mk H; clear H; have p700 : 0 ≤ (qat : Int) := of_decide_eq_true (by first | (with_reducible assumption) | assumption); have q700 : qat < (l0.length : Int) := of_decide_eq_true (by first | (with_reducible assumption) | assumption); obtain ⟨quv, e700, qiI, qiJ, qiK⟩ := qcZ HR0.out qat p700 q700; obtain rfl : qck = quv := (by injection e700); replace qiI := (HB.out.cell (World.block_lt_of_cell? w _ qiI)).trans qiI; replace qiJ := (HB.out.cell (World.block_lt_of_cell? w _ qiJ)).trans qiJ; replace qiK := (HB.out.cell (World.block_lt_of_cell? w _ qiK)).trans qiK; replace p700 := eq_true p700; replace q700 := eq_true q700
          go_wp2
          go_meet
          case rel => exact ⟨_, (wrap64 (qfN + (wrap64 (((qaw l0 qat).f0) - t689)))), (by first | rfl | (simp; done) | (simp [*]; done)), H', ⟨by have := HJ6.out; have := HK2.out; have := HJ31.out; first | omega | exact Nat.le_refl _⟩, ⟨by (with_reducible repeat (first | refine qac ?_ _ | refine qae ?_ | refine qab ?_ _)); exact qaQ.out⟩, ⟨by (with_reducible repeat (first | refine qac ?_ _ | refine qae ?_ | refine qab ?_ _)); exact qaI.out⟩, ⟨by repeat (first | (with_reducible first | exact HB.out | apply qag | apply qad | apply qah | refine qaf ?_ qbM.out | refine qaf ?_ qbY.out) | exact HB.out)⟩⟩
         replace c45 := Bool.eq_false_iff.mpr c45; subst c45
         have H1 : (qak.j3 kj31 l0 l2 t679 t680 (wrap64 (qbH + ((qaw l0 qat).f0))) qfN qcN qbV qat t681 t682) = some r := by rw [if_neg (show ¬ (false = true) by decide)] at H; exact H
         clear H; have H := H1; clear H1; have H' := qaa.mk H; clear H
         go_wp2
         go_meet
         case rel => exact ⟨_, (qfN), (by first | rfl | (simp; done) | (simp [*]; done)), H', ⟨by have := HJ6.out; have := HK2.out; have := HJ31.out; first | omega | exact Nat.le_refl _⟩, ⟨by (with_reducible repeat (first | refine qac ?_ _ | refine qae ?_ | refine qab ?_ _)); exact qaQ.out⟩, ⟨by (with_reducible repeat (first | refine qac ?_ _ | refine qae ?_ | refine qab ?_ _)); exact qaI.out⟩, ⟨by repeat (first | (with_reducible first | exact HB.out | apply qag | apply qad | apply qah | refine qaf ?_ qbM.out | refine qaf ?_ qbY.out) | exact HB.out)⟩⟩
        clear HC42; (try clear c1); (try clear c2); (try clear p2); (try clear c3); (try clear c4); (try clear p6); (try clear q6); (try clear hx6); (try clear p7); (try clear q7); (try clear hx7); (try clear c9); (try clear c13); (try clear c15); (try clear c15b0); (try clear c15b1); (try clear c16); (try clear c17); (try clear c17b0); (try clear c17b1); (try clear c18); (try clear c18b0); (try clear c18b1); (try clear c18b2); (try clear c19); (try clear c20); (try clear c23); (try clear c25); (try clear c25b0); (try clear c26); (try clear c26b0); (try clear c34); (try clear c36); (try clear c37); (try clear c37b0); (try clear c38); (try clear c38b0); (try clear c39); (try clear c42); (try clear c45); (try clear qep); (try clear qeq); (try clear qer); (try clear qes); (try clear qiw); (try clear qix); (try clear qdR); (try clear qdS); (try clear qet); (try clear qeu); (try clear qev); (try clear qew); (try clear qiB); (try clear qiC); (try clear qdT); (try clear qdU); (try clear qhT); (try clear qhU); (try clear qhV); (try clear qgw); (try clear qgx); (try clear qgy); (try clear qgz); (try clear qgA); (try clear qgB); (try clear qgC); (try clear qgD); (try clear qgE); (try clear qhq); (try clear qhr); (try clear qhs); (try clear qht); (try clear qhu); (try clear qhv); (try clear qiI); (try clear qiJ); (try clear qiK); (try clear p2); (try clear p6); (try clear p686); (try clear p688); (try clear p690); (try clear p691); (try clear p695); (try clear p696); (try clear p700); (try clear q6); (try clear q686); (try clear q688); (try clear q690); (try clear q691); (try clear q695); (try clear q696); (try clear q700); obtain ⟨kq, qcP, rfl, HA, HJ41, qaQ, qaI, HB⟩ := hcut
        cases kq with
        | zero => exact absurd HA.out (by simp [qak.j3])
        | succ kj41 =>
         have H := HA.out; clear HA; simp only [qak.j3] at H; have HC46 := qaa.mk H; clear H
         go_upto_region 16 with (fail)
         go_cut [144] (fun v144 wc => ∃ (kq : Nat) (qle : Bool), v144 = .bool qle ∧ qaa (qak.j4 kq l0 l2 t679 t680 (wrap64 (qbH + ((qaw l0 qat).f0))) qcP qcN qbV qat qle t681 t682 = some r) ∧ qaa (kq ≤ kj41) ∧ qaa (wc.heap[qbP]? = some (.cells #[.int .i64 a1_0, .int .i64 a1_1] 23 (0, 0))) ∧ qaa (wc.heap[qbJ]? = some (.cells #[.int .i64 t681, .int .i64 t682] 25 (0, 0))) ∧ qaa (Below w.heap.size w wc))
         case first =>
          have H := HC46.out; clear HC46
          by_cases c47 : 0 ≤ qat
          ·
           as_aux_lemma =>
           rw [if_pos c47] at H; have c47b0 : decide (0 ≤ qat) = true := decide_eq_true c47; clear c47
           (first | rw [c47b0] | (simp only [qaB, qaC]; rw [c47b0]) | skip)
           by_cases c48 : qat < (l0.length : Int)
           ·
            as_aux_lemma =>
            rw [if_pos c48] at H; have c48b0 : decide (qat < (l0.length : Int)) = true := decide_eq_true c48; clear c48; replace H := Option.bind_eq_some_iff.mp H; obtain ⟨t702, A490, H⟩ := H; replace H : (if t702 = true then ((qba.f ((qaw l0 qat).f1.f1) t679 t680).bind fun t704 => (qak.j4 kj41 l0 l2 t679 t680 (wrap64 (qbH + ((qaw l0 qat).f0))) qcP qcN qbV qat t704 t681 t682)) else (qak.j4 kj41 l0 l2 t679 t680 (wrap64 (qbH + ((qaw l0 qat).f0))) qcP qcN qbV qat false t681 t682)) = some r := H; have A49 := qaa.mk A490; clear A490
            by_cases c50 : t702 = true
            ·
             as_aux_lemma =>
             subst c50
             have H1 : ((qba.f ((qaw l0 qat).f1.f1) t679 t680).bind fun t704 => (qak.j4 kj41 l0 l2 t679 t680 (wrap64 (qbH + ((qaw l0 qat).f0))) qcP qcN qbV qat t704 t681 t682)) = some r := by rw [if_pos rfl] at H; exact H
             clear H; have H := H1; clear H1; replace H := Option.bind_eq_some_iff.mp H; obtain ⟨t704, A510, H⟩ := H; replace H : (qak.j4 kj41 l0 l2 t679 t680 (wrap64 (qbH + ((qaw l0 qat).f0))) qcP qcN qbV qat t704 t681 t682) = some r := H; have A51 := qaa.mk A510; clear A510; have H' := qaa.mk H; clear H; have p701 : 0 ≤ (qat : Int) := of_decide_eq_true (by first | (with_reducible assumption) | assumption); have q701 : qat < (l0.length : Int) := of_decide_eq_true (by first | (with_reducible assumption) | assumption); obtain ⟨qpr, e701, qgF, qgG, qgH⟩ := qcZ HR0.out qat p701 q701; obtain rfl : qck = qpr := (by injection e701); replace qgF := (HB.out.cell (World.block_lt_of_cell? w _ qgF)).trans qgF; replace qgG := (HB.out.cell (World.block_lt_of_cell? w _ qgG)).trans qgG; replace qgH := (HB.out.cell (World.block_lt_of_cell? w _ qgH)).trans qgH; replace p701 := eq_true p701; replace q701 := eq_true q701
             go_wp2_with (first | ((with_reducible refine qaT (f := 34) rfl ?_); refine qbs (some 133) rfl rfl Try.func34 (by kernel_rfl) rfl #[.int .i64 ((qaw l0 qat).f1.f0), .int .i64 t679, .int .i64 t680] rfl (by (try simp only [List.map_toArray, List.map_cons, List.map_nil]); first | done | rfl | (simp only [List.length_drop, List.length_take]; rfl)) ?_; (with_reducible refine (qba.calls ((qaw l0 qat).f1.f0) t679 t680 true _ A49.out).mono ?_); rintro e w' ⟨rfl, ⟨nd, rfl⟩⟩; refine ⟨_, rfl, ?_⟩; have p703 : 0 ≤ (qat : Int) := of_decide_eq_true (by first | (with_reducible assumption) | assumption); have q703 : qat < (l0.length : Int) := of_decide_eq_true (by first | (with_reducible assumption) | assumption); obtain ⟨quw, e703, qjL, qjM, qjN⟩ := qcZ HR0.out qat p703 q703; obtain rfl : qck = quw := (by injection e703); replace qjL := (HB.out.cell (World.block_lt_of_cell? w _ qjL)).trans qjL; replace qjM := (HB.out.cell (World.block_lt_of_cell? w _ qjM)).trans qjM; replace qjN := (HB.out.cell (World.block_lt_of_cell? w _ qjN)).trans qjN; replace p703 := eq_true p703; replace q703 := eq_true q703) | (go_at_call 34; (with_reducible refine (qba.calls ((qaw l0 qat).f1.f1) t679 t680 t704 _ A51.out).mono ?_); rintro e w' ⟨rfl, ⟨nd, rfl⟩⟩))
             go_meet
             case rel => exact ⟨_, (t704), (by first | rfl | (simp; done) | (simp [*]; done)), H', ⟨by have := HJ6.out; have := HK2.out; have := HJ31.out; have := HJ41.out; first | omega | exact Nat.le_refl _⟩, ⟨by (with_reducible repeat (first | refine qac ?_ _ | refine qae ?_ | refine qab ?_ _)); exact qaQ.out⟩, ⟨by (with_reducible repeat (first | refine qac ?_ _ | refine qae ?_ | refine qab ?_ _)); exact qaI.out⟩, ⟨by repeat (first | (with_reducible first | exact HB.out | apply qag | apply qad | apply qah | refine qaf ?_ qbM.out | refine qaf ?_ qbY.out) | exact HB.out)⟩⟩
            as_aux_lemma =>
            replace c50 := Bool.eq_false_iff.mpr c50; subst c50
            have H1 : (qak.j4 kj41 l0 l2 t679 t680 (wrap64 (qbH + ((qaw l0 qat).f0))) qcP qcN qbV qat false t681 t682) = some r := by rw [if_neg (show ¬ (false = true) by decide)] at H; exact H
            clear H; have H := H1; clear H1; have H' := qaa.mk H; clear H; have p701 : 0 ≤ (qat : Int) := of_decide_eq_true (by first | (with_reducible assumption) | assumption); have q701 : qat < (l0.length : Int) := of_decide_eq_true (by first | (with_reducible assumption) | assumption); obtain ⟨qpr, e701, qgF, qgG, qgH⟩ := qcZ HR0.out qat p701 q701; obtain rfl : qck = qpr := (by injection e701); replace qgF := (HB.out.cell (World.block_lt_of_cell? w _ qgF)).trans qgF; replace qgG := (HB.out.cell (World.block_lt_of_cell? w _ qgG)).trans qgG; replace qgH := (HB.out.cell (World.block_lt_of_cell? w _ qgH)).trans qgH; replace p701 := eq_true p701; replace q701 := eq_true q701
            go_wp2_with (first | ((with_reducible refine qaT (f := 34) rfl ?_); refine qbs (some 133) rfl rfl Try.func34 (by kernel_rfl) rfl #[.int .i64 ((qaw l0 qat).f1.f0), .int .i64 t679, .int .i64 t680] rfl (by (try simp only [List.map_toArray, List.map_cons, List.map_nil]); first | done | rfl | (simp only [List.length_drop, List.length_take]; rfl)) ?_; (with_reducible refine (qba.calls ((qaw l0 qat).f1.f0) t679 t680 false _ A49.out).mono ?_); rintro e w' ⟨rfl, ⟨nd, rfl⟩⟩; refine ⟨_, rfl, ?_⟩))
            go_meet
            case rel => exact ⟨_, (false), (by first | rfl | (simp; done) | (simp [*]; done)), H', ⟨by have := HJ6.out; have := HK2.out; have := HJ31.out; have := HJ41.out; first | omega | exact Nat.le_refl _⟩, ⟨by (with_reducible repeat (first | refine qac ?_ _ | refine qae ?_ | refine qab ?_ _)); exact qaQ.out⟩, ⟨by (with_reducible repeat (first | refine qac ?_ _ | refine qae ?_ | refine qab ?_ _)); exact qaI.out⟩, ⟨by repeat (first | (with_reducible first | exact HB.out | apply qag | apply qad | apply qah | refine qaf ?_ qbM.out | refine qaf ?_ qbY.out) | exact HB.out)⟩⟩
           rw [if_neg c48] at H
           exact absurd H (by simp)
          rw [if_neg c47] at H
          exact absurd H (by simp)
         clear HC46; (try clear c1); (try clear c2); (try clear p2); (try clear c3); (try clear c4); (try clear c5); (try clear p6); (try clear q6); (try clear hx6); (try clear p7); (try clear q7); (try clear hx7); (try clear c9); (try clear c13); (try clear c15); (try clear c15b0); (try clear c15b1); (try clear c16); (try clear c17); (try clear c17b0); (try clear c17b1); (try clear c18); (try clear c18b0); (try clear c18b1); (try clear c18b2); (try clear c19); (try clear c20); (try clear c23); (try clear c25); (try clear c25b0); (try clear c26); (try clear c26b0); (try clear c34); (try clear c36); (try clear c37); (try clear c37b0); (try clear c38); (try clear c38b0); (try clear c39); (try clear c42); (try clear c45); (try clear c47); (try clear c47b0); (try clear c48); (try clear c48b0); (try clear c50); (try clear qep); (try clear qeq); (try clear qer); (try clear qes); (try clear qiw); (try clear qix); (try clear qdR); (try clear qdS); (try clear qet); (try clear qeu); (try clear qev); (try clear qew); (try clear qiB); (try clear qiC); (try clear qdT); (try clear qdU); (try clear qhT); (try clear qhU); (try clear qhV); (try clear qgw); (try clear qgx); (try clear qgy); (try clear qgz); (try clear qgA); (try clear qgB); (try clear qgC); (try clear qgD); (try clear qgE); (try clear qhq); (try clear qhr); (try clear qhs); (try clear qht); (try clear qhu); (try clear qhv); (try clear qiI); (try clear qiJ); (try clear qiK); (try clear qgF); (try clear qgG); (try clear qgH); (try clear qjL); (try clear qjM); (try clear qjN); (try clear p2); (try clear p6); (try clear p686); (try clear p688); (try clear p690); (try clear p691); (try clear p695); (try clear p696); (try clear p7); (try clear p700); (try clear p701); (try clear p703); (try clear q6); (try clear q686); (try clear q688); (try clear q690); (try clear q691); (try clear q695); (try clear q696); (try clear q7); (try clear q700); (try clear q701); (try clear q703); obtain ⟨kq, qle, rfl, HA, HJ45, qaQ, qaI, HB⟩ := hcut
         cases kq with
         | zero => exact absurd HA.out (by simp [qak.j4])
         | succ kj45 =>
          have H := HA.out; clear HA; simp only [qak.j4] at H; have HC52 := qaa.mk H; clear H
          go_upto_if 144 with (fail)
          go_cut [13] (fun v13 wc => ∃ (kq : Nat) (qdw : Int), v13 = .int .i64 qdw ∧ qaa (qak.j5 kq l0 l2 t679 t680 (wrap64 (qbH + ((qaw l0 qat).f0))) qcP qdw qbV qat t681 t682 = some r) ∧ qaa (kq ≤ kj45) ∧ qaa (wc.heap[qbP]? = some (.cells #[.int .i64 a1_0, .int .i64 a1_1] 23 (0, 0))) ∧ qaa (wc.heap[qbJ]? = some (.cells #[.int .i64 t681, .int .i64 t682] 25 (0, 0))) ∧ qaa (Below w.heap.size w wc))
          case first =>
           have H := HC52.out; clear HC52
           by_cases c53 : qle = true
           ·
            as_aux_lemma =>
            subst c53
            have H1 : (if 0 ≤ qat then (if qat < (l0.length : Int) then (qak.j5 kj45 l0 l2 t679 t680 (wrap64 (qbH + ((qaw l0 qat).f0))) qcP (wrap64 (qcN + ((qaw l0 qat).f0))) qbV qat t681 t682) else (none)) else (none)) = some r := by rw [if_pos rfl] at H; exact H
            clear H; have H := H1; clear H1
            by_cases c54 : 0 ≤ qat
            ·
             as_aux_lemma =>
             rw [if_pos c54] at H; have c54b0 : decide (0 ≤ qat) = true := decide_eq_true c54; clear c54
             (first | rw [c54b0] | (simp only [qaB, qaC]; rw [c54b0]) | skip)
             by_cases c55 : qat < (l0.length : Int)
             ·
              as_aux_lemma =>
              rw [if_pos c55] at H; have c55b0 : decide (qat < (l0.length : Int)) = true := decide_eq_true c55; clear c55; have H' := qaa.mk H; clear H; have p705 : 0 ≤ (qat : Int) := of_decide_eq_true (by first | (with_reducible assumption) | assumption); have q705 : qat < (l0.length : Int) := of_decide_eq_true (by first | (with_reducible assumption) | assumption); obtain ⟨qux, e705, qk9, qla, qlb⟩ := qcZ HR0.out qat p705 q705; obtain rfl : qck = qux := (by injection e705); replace qk9 := (HB.out.cell (World.block_lt_of_cell? w _ qk9)).trans qk9; replace qla := (HB.out.cell (World.block_lt_of_cell? w _ qla)).trans qla; replace qlb := (HB.out.cell (World.block_lt_of_cell? w _ qlb)).trans qlb; replace p705 := eq_true p705; replace q705 := eq_true q705
              go_wp2
              go_meet
              case rel => exact ⟨_, (wrap64 (qcN + ((qaw l0 qat).f0))), (by first | rfl | (simp; done) | (simp [*]; done)), H', ⟨by have := HJ6.out; have := HK2.out; have := HJ31.out; have := HJ41.out; have := HJ45.out; first | omega | exact Nat.le_refl _⟩, ⟨by (with_reducible repeat (first | refine qac ?_ _ | refine qae ?_ | refine qab ?_ _)); exact qaQ.out⟩, ⟨by (with_reducible repeat (first | refine qac ?_ _ | refine qae ?_ | refine qab ?_ _)); exact qaI.out⟩, ⟨by repeat (first | (with_reducible first | exact HB.out | apply qag | apply qad | apply qah | refine qaf ?_ qbM.out | refine qaf ?_ qbY.out) | exact HB.out)⟩⟩
             rw [if_neg c55] at H
             exact absurd H (by simp)
            rw [if_neg c54] at H
            exact absurd H (by simp)
           replace c53 := Bool.eq_false_iff.mpr c53; subst c53
           have H1 : (qak.j5 kj45 l0 l2 t679 t680 (wrap64 (qbH + ((qaw l0 qat).f0))) qcP qcN qbV qat t681 t682) = some r := by rw [if_neg (show ¬ (false = true) by decide)] at H; exact H
           clear H; have H := H1; clear H1; have H' := qaa.mk H; clear H
           go_wp2
           go_meet
           case rel => exact ⟨_, (qcN), (by first | rfl | (simp; done) | (simp [*]; done)), H', ⟨by have := HJ6.out; have := HK2.out; have := HJ31.out; have := HJ41.out; have := HJ45.out; first | omega | exact Nat.le_refl _⟩, ⟨by (with_reducible repeat (first | refine qac ?_ _ | refine qae ?_ | refine qab ?_ _)); exact qaQ.out⟩, ⟨by (with_reducible repeat (first | refine qac ?_ _ | refine qae ?_ | refine qab ?_ _)); exact qaI.out⟩, ⟨by repeat (first | (with_reducible first | exact HB.out | apply qag | apply qad | apply qah | refine qaf ?_ qbM.out | refine qaf ?_ qbY.out) | exact HB.out)⟩⟩
          clear HC52; (try clear c1); (try clear c2); (try clear p2); (try clear c3); (try clear c4); (try clear c5); (try clear p6); (try clear q6); (try clear hx6); (try clear p7); (try clear q7); (try clear hx7); (try clear c9); (try clear c13); (try clear c15); (try clear c15b0); (try clear c15b1); (try clear c16); (try clear c17); (try clear c17b0); (try clear c17b1); (try clear c18); (try clear c18b0); (try clear c18b1); (try clear c18b2); (try clear c19); (try clear c20); (try clear c23); (try clear c25); (try clear c25b0); (try clear c26); (try clear c26b0); (try clear c34); (try clear c36); (try clear c37); (try clear c37b0); (try clear c38); (try clear c38b0); (try clear c39); (try clear c42); (try clear c45); (try clear c47); (try clear c47b0); (try clear c48); (try clear c48b0); (try clear c50); (try clear c53); (try clear c54); (try clear c54b0); (try clear c55); (try clear c55b0); (try clear qep); (try clear qeq); (try clear qer); (try clear qes); (try clear qiw); (try clear qix); (try clear qdR); (try clear qdS); (try clear qet); (try clear qeu); (try clear qev); (try clear qew); (try clear qiB); (try clear qiC); (try clear qdT); (try clear qdU); (try clear qhT); (try clear qhU); (try clear qhV); (try clear qgw); (try clear qgx); (try clear qgy); (try clear qgz); (try clear qgA); (try clear qgB); (try clear qgC); (try clear qgD); (try clear qgE); (try clear qhq); (try clear qhr); (try clear qhs); (try clear qht); (try clear qhu); (try clear qhv); (try clear qiI); (try clear qiJ); (try clear qiK); (try clear qgF); (try clear qgG); (try clear qgH); (try clear qjL); (try clear qjM); (try clear qjN); (try clear qk9); (try clear qla); (try clear qlb); (try clear p2); (try clear p6); (try clear p686); (try clear p688); (try clear p690); (try clear p691); (try clear p695); (try clear p696); (try clear p7); (try clear p700); (try clear p701); (try clear p703); (try clear p705); (try clear q6); (try clear q686); (try clear q688); (try clear q690); (try clear q691); (try clear q695); (try clear q696); (try clear q7); (try clear q700); (try clear q701); (try clear q703); (try clear q705); obtain ⟨kq, qdw, rfl, HA, HJ51, qaQ, qaI, HB⟩ := hcut
          cases kq with
          | zero => exact absurd HA.out (by simp [qak.j5])
          | succ kj51 =>
           have H := HA.out; clear HA; simp only [qak.j5] at H
           by_cases c56 : 0 ≤ qat
           ·
            as_aux_lemma =>
            rw [if_pos c56] at H; have c56b0 : decide (0 ≤ qat) = true := decide_eq_true c56; clear c56
            by_cases c57 : qat < (l0.length : Int)
            ·
             as_aux_lemma =>
             rw [if_pos c57] at H; have c57b0 : decide (qat < (l0.length : Int)) = true := decide_eq_true c57; clear c57; replace H := Option.bind_eq_some_iff.mp H; obtain ⟨t707, A580, H⟩ := H; replace H : (if t707 = true then (qak.l0 kj51 l0 l2 t679 t680 (wrap64 (qbH + ((qaw l0 qat).f0))) qcP qdw (wrap64 (qbV + ((qaw l0 qat).f0))) (wrap64 (qat + 1)) t681 t682) else ((qba.f ((qaw l0 qat).f1.f1) t679 t680).bind fun t710 => (if t710 = true then (qak.l0 kj51 l0 l2 t679 t680 (wrap64 (qbH + ((qaw l0 qat).f0))) qcP qdw (wrap64 (qbV + ((qaw l0 qat).f0))) (wrap64 (qat + 1)) t681 t682) else (if ((qaw l0 qat).f1.f0) < t679 then (if ((qaw l0 qat).f1.f1) > t680 then (qak.l0 kj51 l0 l2 t679 t680 (wrap64 (qbH + ((qaw l0 qat).f0))) qcP qdw (wrap64 (qbV + ((qaw l0 qat).f0))) (wrap64 (qat + 1)) t681 t682) else (qak.l0 kj51 l0 l2 t679 t680 (wrap64 (qbH + ((qaw l0 qat).f0))) qcP qdw qbV (wrap64 (qat + 1)) t681 t682)) else (qak.l0 kj51 l0 l2 t679 t680 (wrap64 (qbH + ((qaw l0 qat).f0))) qcP qdw qbV (wrap64 (qat + 1)) t681 t682))))) = some r := H; have A58 := qaa.mk A580; clear A580
             by_cases c59 : t707 = true
             ·
              as_aux_lemma =>
              subst c59
              have H1 : (qak.l0 kj51 l0 l2 t679 t680 (wrap64 (qbH + ((qaw l0 qat).f0))) qcP qdw (wrap64 (qbV + ((qaw l0 qat).f0))) (wrap64 (qat + 1)) t681 t682) = some r := by rw [if_pos rfl] at H; exact H
              clear H; have H := H1; clear H1; have H' := qaa.mk H; clear H; have p706 : 0 ≤ (qat : Int) := of_decide_eq_true (by first | (with_reducible assumption) | assumption); have q706 : qat < (l0.length : Int) := of_decide_eq_true (by first | (with_reducible assumption) | assumption); obtain ⟨qik, e706, qdO, qdP, qdQ⟩ := qcZ HR0.out qat p706 q706; obtain rfl : qck = qik := (by injection e706); replace qdO := (HB.out.cell (World.block_lt_of_cell? w _ qdO)).trans qdO; replace qdP := (HB.out.cell (World.block_lt_of_cell? w _ qdP)).trans qdP; replace qdQ := (HB.out.cell (World.block_lt_of_cell? w _ qdQ)).trans qdQ; replace p706 := eq_true p706; replace q706 := eq_true q706
              go_wp2_with (first | ((with_reducible refine qaT (f := 34) rfl ?_); refine qbs (some 160) rfl rfl Try.func34 (by kernel_rfl) rfl #[.int .i64 ((qaw l0 qat).f1.f0), .int .i64 t679, .int .i64 t680] rfl (by (try simp only [List.map_toArray, List.map_cons, List.map_nil]); first | done | rfl | (simp only [List.length_drop, List.length_take]; rfl)) ?_; (with_reducible refine (qba.calls ((qaw l0 qat).f1.f0) t679 t680 true _ A58.out).mono ?_); rintro e w' ⟨rfl, ⟨nd, rfl⟩⟩; refine ⟨_, rfl, ?_⟩; have p708 : 0 ≤ (qat : Int) := of_decide_eq_true (by first | (with_reducible assumption) | assumption); have q708 : qat < (l0.length : Int) := of_decide_eq_true (by first | (with_reducible assumption) | assumption); obtain ⟨quy, e708, qmR, qmS, qmT⟩ := qcZ HR0.out qat p708 q708; obtain rfl : qck = quy := (by injection e708); replace qmR := (HB.out.cell (World.block_lt_of_cell? w _ qmR)).trans qmR; replace qmS := (HB.out.cell (World.block_lt_of_cell? w _ qmS)).trans qmS; replace qmT := (HB.out.cell (World.block_lt_of_cell? w _ qmT)).trans qmT; replace p708 := eq_true p708; replace q708 := eq_true q708))
              go_roundg kj51
              case measure => have := HJ6.out; have := HK2.out; have := HJ31.out; have := HJ41.out; have := HJ45.out; have := HJ51.out; omega
              case rel => exact ⟨((wrap64 (qbH + ((qaw l0 qat).f0)))), (qcP), (qdw), (wrap64 (qbV + ((qaw l0 qat).f0))), (wrap64 (qat + 1)), (by first | rfl | (simp; done) | (simp [*]; done)), (by first | rfl | (simp; done) | (simp [*]; done)), (by first | rfl | (simp; done) | (simp [*]; done)), (by first | rfl | (simp; done) | (simp [*]; done)), (by first | rfl | (simp; done) | (simp [*]; done)), H', ⟨by have := HJ6.out; have := HK2.out; have := HJ31.out; have := HJ41.out; have := HJ45.out; have := HJ51.out; omega⟩, ⟨by (with_reducible repeat (first | refine qac ?_ _ | refine qae ?_ | refine qab ?_ _)); exact qaQ.out⟩, ⟨by (with_reducible repeat (first | refine qac ?_ _ | refine qae ?_ | refine qab ?_ _)); exact qaI.out⟩, ⟨by repeat (first | (with_reducible first | exact HB.out | apply qag | apply qad | apply qah | refine qaf ?_ qbM.out | refine qaf ?_ qbY.out) | exact HB.out)⟩⟩
             as_aux_lemma =>
             replace c59 := Bool.eq_false_iff.mpr c59; subst c59
             have H1 : ((qba.f ((qaw l0 qat).f1.f1) t679 t680).bind fun t710 => (if t710 = true then (qak.l0 kj51 l0 l2 t679 t680 (wrap64 (qbH + ((qaw l0 qat).f0))) qcP qdw (wrap64 (qbV + ((qaw l0 qat).f0))) (wrap64 (qat + 1)) t681 t682) else (if ((qaw l0 qat).f1.f0) < t679 then (if ((qaw l0 qat).f1.f1) > t680 then (qak.l0 kj51 l0 l2 t679 t680 (wrap64 (qbH + ((qaw l0 qat).f0))) qcP qdw (wrap64 (qbV + ((qaw l0 qat).f0))) (wrap64 (qat + 1)) t681 t682) else (qak.l0 kj51 l0 l2 t679 t680 (wrap64 (qbH + ((qaw l0 qat).f0))) qcP qdw qbV (wrap64 (qat + 1)) t681 t682)) else (qak.l0 kj51 l0 l2 t679 t680 (wrap64 (qbH + ((qaw l0 qat).f0))) qcP qdw qbV (wrap64 (qat + 1)) t681 t682)))) = some r := by rw [if_neg (show ¬ (false = true) by decide)] at H; exact H
             clear H; have H := H1; clear H1; replace H := Option.bind_eq_some_iff.mp H; obtain ⟨t710, A600, H⟩ := H; replace H : (if t710 = true then (qak.l0 kj51 l0 l2 t679 t680 (wrap64 (qbH + ((qaw l0 qat).f0))) qcP qdw (wrap64 (qbV + ((qaw l0 qat).f0))) (wrap64 (qat + 1)) t681 t682) else (if ((qaw l0 qat).f1.f0) < t679 then (if ((qaw l0 qat).f1.f1) > t680 then (qak.l0 kj51 l0 l2 t679 t680 (wrap64 (qbH + ((qaw l0 qat).f0))) qcP qdw (wrap64 (qbV + ((qaw l0 qat).f0))) (wrap64 (qat + 1)) t681 t682) else (qak.l0 kj51 l0 l2 t679 t680 (wrap64 (qbH + ((qaw l0 qat).f0))) qcP qdw qbV (wrap64 (qat + 1)) t681 t682)) else (qak.l0 kj51 l0 l2 t679 t680 (wrap64 (qbH + ((qaw l0 qat).f0))) qcP qdw qbV (wrap64 (qat + 1)) t681 t682))) = some r := H; have A60 := qaa.mk A600; clear A600
             by_cases c61 : t710 = true
             ·
              as_aux_lemma =>
              subst c61
              have H1 : (qak.l0 kj51 l0 l2 t679 t680 (wrap64 (qbH + ((qaw l0 qat).f0))) qcP qdw (wrap64 (qbV + ((qaw l0 qat).f0))) (wrap64 (qat + 1)) t681 t682) = some r := by rw [if_pos rfl] at H; exact H
              clear H; have H := H1; clear H1; have H' := qaa.mk H; clear H; have p706 : 0 ≤ (qat : Int) := of_decide_eq_true (by first | (with_reducible assumption) | assumption); have q706 : qat < (l0.length : Int) := of_decide_eq_true (by first | (with_reducible assumption) | assumption); obtain ⟨qik, e706, qdO, qdP, qdQ⟩ := qcZ HR0.out qat p706 q706; obtain rfl : qck = qik := (by injection e706); replace qdO := (HB.out.cell (World.block_lt_of_cell? w _ qdO)).trans qdO; replace qdP := (HB.out.cell (World.block_lt_of_cell? w _ qdP)).trans qdP; replace qdQ := (HB.out.cell (World.block_lt_of_cell? w _ qdQ)).trans qdQ; replace p706 := eq_true p706; replace q706 := eq_true q706
              go_wp2_with (first | ((with_reducible refine qaT (f := 34) rfl ?_); refine qbs (some 160) rfl rfl Try.func34 (by kernel_rfl) rfl #[.int .i64 ((qaw l0 qat).f1.f0), .int .i64 t679, .int .i64 t680] rfl (by (try simp only [List.map_toArray, List.map_cons, List.map_nil]); first | done | rfl | (simp only [List.length_drop, List.length_take]; rfl)) ?_; (with_reducible refine (qba.calls ((qaw l0 qat).f1.f0) t679 t680 false _ A58.out).mono ?_); rintro e w' ⟨rfl, ⟨nd, rfl⟩⟩; refine ⟨_, rfl, ?_⟩; have p709 : 0 ≤ (qat : Int) := of_decide_eq_true (by first | (with_reducible assumption) | assumption); have q709 : qat < (l0.length : Int) := of_decide_eq_true (by first | (with_reducible assumption) | assumption); obtain ⟨qjX, e709, qey, qez, qeA⟩ := qcZ HR0.out qat p709 q709; obtain rfl : qck = qjX := (by injection e709); replace qey := (HB.out.cell (World.block_lt_of_cell? w _ qey)).trans qey; replace qez := (HB.out.cell (World.block_lt_of_cell? w _ qez)).trans qez; replace qeA := (HB.out.cell (World.block_lt_of_cell? w _ qeA)).trans qeA; replace p709 := eq_true p709; replace q709 := eq_true q709) | (go_at_call 34; (with_reducible refine (qba.calls ((qaw l0 qat).f1.f1) t679 t680 true _ A60.out).mono ?_); rintro e w' ⟨rfl, ⟨nd, rfl⟩⟩; have p711 : 0 ≤ (qat : Int) := of_decide_eq_true (by first | (with_reducible assumption) | assumption); have q711 : qat < (l0.length : Int) := of_decide_eq_true (by first | (with_reducible assumption) | assumption); obtain ⟨quz, e711, qmU, qmV, qmW⟩ := qcZ HR0.out qat p711 q711; obtain rfl : qck = quz := (by injection e711); replace qmU := (HB.out.cell (World.block_lt_of_cell? w _ qmU)).trans qmU; replace qmV := (HB.out.cell (World.block_lt_of_cell? w _ qmV)).trans qmV; replace qmW := (HB.out.cell (World.block_lt_of_cell? w _ qmW)).trans qmW; replace p711 := eq_true p711; replace q711 := eq_true q711))
              go_roundg kj51
              case measure => have := HJ6.out; have := HK2.out; have := HJ31.out; have := HJ41.out; have := HJ45.out; have := HJ51.out; omega
              case rel => exact ⟨((wrap64 (qbH + ((qaw l0 qat).f0)))), (qcP), (qdw), (wrap64 (qbV + ((qaw l0 qat).f0))), (wrap64 (qat + 1)), (by first | rfl | (simp; done) | (simp [*]; done)), (by first | rfl | (simp; done) | (simp [*]; done)), (by first | rfl | (simp; done) | (simp [*]; done)), (by first | rfl | (simp; done) | (simp [*]; done)), (by first | rfl | (simp; done) | (simp [*]; done)), H', ⟨by have := HJ6.out; have := HK2.out; have := HJ31.out; have := HJ41.out; have := HJ45.out; have := HJ51.out; omega⟩, ⟨by (with_reducible repeat (first | refine qac ?_ _ | refine qae ?_ | refine qab ?_ _)); exact qaQ.out⟩, ⟨by (with_reducible repeat (first | refine qac ?_ _ | refine qae ?_ | refine qab ?_ _)); exact qaI.out⟩, ⟨by repeat (first | (with_reducible first | exact HB.out | apply qag | apply qad | apply qah | refine qaf ?_ qbM.out | refine qaf ?_ qbY.out) | exact HB.out)⟩⟩
             as_aux_lemma =>
             replace c61 := Bool.eq_false_iff.mpr c61; subst c61
             have H1 : (if ((qaw l0 qat).f1.f0) < t679 then (if ((qaw l0 qat).f1.f1) > t680 then (qak.l0 kj51 l0 l2 t679 t680 (wrap64 (qbH + ((qaw l0 qat).f0))) qcP qdw (wrap64 (qbV + ((qaw l0 qat).f0))) (wrap64 (qat + 1)) t681 t682) else (qak.l0 kj51 l0 l2 t679 t680 (wrap64 (qbH + ((qaw l0 qat).f0))) qcP qdw qbV (wrap64 (qat + 1)) t681 t682)) else (qak.l0 kj51 l0 l2 t679 t680 (wrap64 (qbH + ((qaw l0 qat).f0))) qcP qdw qbV (wrap64 (qat + 1)) t681 t682)) = some r := by rw [if_neg (show ¬ (false = true) by decide)] at H; exact H
             clear H; have H := H1; clear H1
             by_cases c62 : ((qaw l0 qat).f1.f0) < t679
             ·
              as_aux_lemma =>
              rw [if_pos c62] at H; have c62b0 : decide (((qaw l0 qat).f1.f0) < t679) = true := decide_eq_true c62; clear c62
              by_cases c63 : ((qaw l0 qat).f1.f1) > t680
              ·
               as_aux_lemma =>
               rw [if_pos c63] at H; have c63b0 : decide (t680 < ((qaw l0 qat).f1.f1)) = true := decide_eq_true c63; clear c63; have H' := qaa.mk H; clear H; have p706 : 0 ≤ (qat : Int) := of_decide_eq_true (by first | (with_reducible assumption) | assumption); have q706 : qat < (l0.length : Int) := of_decide_eq_true (by first | (with_reducible assumption) | assumption); obtain ⟨qik, e706, qdO, qdP, qdQ⟩ := qcZ HR0.out qat p706 q706; obtain rfl : qck = qik := (by injection e706); replace qdO := (HB.out.cell (World.block_lt_of_cell? w _ qdO)).trans qdO; replace qdP := (HB.out.cell (World.block_lt_of_cell? w _ qdP)).trans qdP; replace qdQ := (HB.out.cell (World.block_lt_of_cell? w _ qdQ)).trans qdQ; replace p706 := eq_true p706; replace q706 := eq_true q706
               go_wp2_with (first | ((with_reducible refine qaT (f := 34) rfl ?_); refine qbs (some 160) rfl rfl Try.func34 (by kernel_rfl) rfl #[.int .i64 ((qaw l0 qat).f1.f0), .int .i64 t679, .int .i64 t680] rfl (by (try simp only [List.map_toArray, List.map_cons, List.map_nil]); first | done | rfl | (simp only [List.length_drop, List.length_take]; rfl)) ?_; (with_reducible refine (qba.calls ((qaw l0 qat).f1.f0) t679 t680 false _ A58.out).mono ?_); rintro e w' ⟨rfl, ⟨nd, rfl⟩⟩; refine ⟨_, rfl, ?_⟩; have p709 : 0 ≤ (qat : Int) := of_decide_eq_true (by first | (with_reducible assumption) | assumption); have q709 : qat < (l0.length : Int) := of_decide_eq_true (by first | (with_reducible assumption) | assumption); obtain ⟨qjX, e709, qey, qez, qeA⟩ := qcZ HR0.out qat p709 q709; obtain rfl : qck = qjX := (by injection e709); replace qey := (HB.out.cell (World.block_lt_of_cell? w _ qey)).trans qey; replace qez := (HB.out.cell (World.block_lt_of_cell? w _ qez)).trans qez; replace qeA := (HB.out.cell (World.block_lt_of_cell? w _ qeA)).trans qeA; replace p709 := eq_true p709; replace q709 := eq_true q709) | (go_at_call 34; (with_reducible refine (qba.calls ((qaw l0 qat).f1.f1) t679 t680 false _ A60.out).mono ?_); rintro e w' ⟨rfl, ⟨nd, rfl⟩⟩; have p712 : 0 ≤ (qat : Int) := of_decide_eq_true (by first | (with_reducible assumption) | assumption); have q712 : qat < (l0.length : Int) := of_decide_eq_true (by first | (with_reducible assumption) | assumption); obtain ⟨qlw, e712, qfJ, qfK, qfL⟩ := qcZ HR0.out qat p712 q712; obtain rfl : qck = qlw := (by injection e712); replace qfJ := (HB.out.cell (World.block_lt_of_cell? w _ qfJ)).trans qfJ; replace qfK := (HB.out.cell (World.block_lt_of_cell? w _ qfK)).trans qfK; replace qfL := (HB.out.cell (World.block_lt_of_cell? w _ qfL)).trans qfL; replace p712 := eq_true p712; replace q712 := eq_true q712; have p713 : 0 ≤ (qat : Int) := of_decide_eq_true (by first | (with_reducible assumption) | assumption); have q713 : qat < (l0.length : Int) := of_decide_eq_true (by first | (with_reducible assumption) | assumption); obtain ⟨qps, e713, qhW, qhX, qhY⟩ := qcZ HR0.out qat p713 q713; obtain rfl : qck = qps := (by injection e713); replace qhW := (HB.out.cell (World.block_lt_of_cell? w _ qhW)).trans qhW; replace qhX := (HB.out.cell (World.block_lt_of_cell? w _ qhX)).trans qhX; replace qhY := (HB.out.cell (World.block_lt_of_cell? w _ qhY)).trans qhY; replace p713 := eq_true p713; replace q713 := eq_true q713; have p714 : 0 ≤ (qat : Int) := of_decide_eq_true (by first | (with_reducible assumption) | assumption); have q714 : qat < (l0.length : Int) := of_decide_eq_true (by first | (with_reducible assumption) | assumption); obtain ⟨quA, e714, qmX, qmY, qmZ⟩ := qcZ HR0.out qat p714 q714; obtain rfl : qck = quA := (by injection e714); replace qmX := (HB.out.cell (World.block_lt_of_cell? w _ qmX)).trans qmX; replace qmY := (HB.out.cell (World.block_lt_of_cell? w _ qmY)).trans qmY; replace qmZ := (HB.out.cell (World.block_lt_of_cell? w _ qmZ)).trans qmZ; replace p714 := eq_true p714; replace q714 := eq_true q714))
               go_roundg kj51
               case measure => have := HJ6.out; have := HK2.out; have := HJ31.out; have := HJ41.out; have := HJ45.out; have := HJ51.out; omega
               case rel => exact ⟨((wrap64 (qbH + ((qaw l0 qat).f0)))), (qcP), (qdw), (wrap64 (qbV + ((qaw l0 qat).f0))), (wrap64 (qat + 1)), (by first | rfl | (simp; done) | (simp [*]; done)), (by first | rfl | (simp; done) | (simp [*]; done)), (by first | rfl | (simp; done) | (simp [*]; done)), (by first | rfl | (simp; done) | (simp [*]; done)), (by first | rfl | (simp; done) | (simp [*]; done)), H', ⟨by have := HJ6.out; have := HK2.out; have := HJ31.out; have := HJ41.out; have := HJ45.out; have := HJ51.out; omega⟩, ⟨by (with_reducible repeat (first | refine qac ?_ _ | refine qae ?_ | refine qab ?_ _)); exact qaQ.out⟩, ⟨by (with_reducible repeat (first | refine qac ?_ _ | refine qae ?_ | refine qab ?_ _)); exact qaI.out⟩, ⟨by repeat (first | (with_reducible first | exact HB.out | apply qag | apply qad | apply qah | refine qaf ?_ qbM.out | refine qaf ?_ qbY.out) | exact HB.out)⟩⟩
              as_aux_lemma =>
              rw [if_neg c63] at H; have c63b0 : decide (t680 < ((qaw l0 qat).f1.f1)) = false := decide_eq_false c63; clear c63; have H' := qaa.mk H; clear H; have p706 : 0 ≤ (qat : Int) := of_decide_eq_true (by first | (with_reducible assumption) | assumption); have q706 : qat < (l0.length : Int) := of_decide_eq_true (by first | (with_reducible assumption) | assumption); obtain ⟨qik, e706, qdO, qdP, qdQ⟩ := qcZ HR0.out qat p706 q706; obtain rfl : qck = qik := (by injection e706); replace qdO := (HB.out.cell (World.block_lt_of_cell? w _ qdO)).trans qdO; replace qdP := (HB.out.cell (World.block_lt_of_cell? w _ qdP)).trans qdP; replace qdQ := (HB.out.cell (World.block_lt_of_cell? w _ qdQ)).trans qdQ; replace p706 := eq_true p706; replace q706 := eq_true q706
              go_wp2_with (first | ((with_reducible refine qaT (f := 34) rfl ?_); refine qbs (some 160) rfl rfl Try.func34 (by kernel_rfl) rfl #[.int .i64 ((qaw l0 qat).f1.f0), .int .i64 t679, .int .i64 t680] rfl (by (try simp only [List.map_toArray, List.map_cons, List.map_nil]); first | done | rfl | (simp only [List.length_drop, List.length_take]; rfl)) ?_; (with_reducible refine (qba.calls ((qaw l0 qat).f1.f0) t679 t680 false _ A58.out).mono ?_); rintro e w' ⟨rfl, ⟨nd, rfl⟩⟩; refine ⟨_, rfl, ?_⟩; have p709 : 0 ≤ (qat : Int) := of_decide_eq_true (by first | (with_reducible assumption) | assumption); have q709 : qat < (l0.length : Int) := of_decide_eq_true (by first | (with_reducible assumption) | assumption); obtain ⟨qjX, e709, qey, qez, qeA⟩ := qcZ HR0.out qat p709 q709; obtain rfl : qck = qjX := (by injection e709); replace qey := (HB.out.cell (World.block_lt_of_cell? w _ qey)).trans qey; replace qez := (HB.out.cell (World.block_lt_of_cell? w _ qez)).trans qez; replace qeA := (HB.out.cell (World.block_lt_of_cell? w _ qeA)).trans qeA; replace p709 := eq_true p709; replace q709 := eq_true q709) | (go_at_call 34; (with_reducible refine (qba.calls ((qaw l0 qat).f1.f1) t679 t680 false _ A60.out).mono ?_); rintro e w' ⟨rfl, ⟨nd, rfl⟩⟩; have p712 : 0 ≤ (qat : Int) := of_decide_eq_true (by first | (with_reducible assumption) | assumption); have q712 : qat < (l0.length : Int) := of_decide_eq_true (by first | (with_reducible assumption) | assumption); obtain ⟨qlw, e712, qfJ, qfK, qfL⟩ := qcZ HR0.out qat p712 q712; obtain rfl : qck = qlw := (by injection e712); replace qfJ := (HB.out.cell (World.block_lt_of_cell? w _ qfJ)).trans qfJ; replace qfK := (HB.out.cell (World.block_lt_of_cell? w _ qfK)).trans qfK; replace qfL := (HB.out.cell (World.block_lt_of_cell? w _ qfL)).trans qfL; replace p712 := eq_true p712; replace q712 := eq_true q712; have p713 : 0 ≤ (qat : Int) := of_decide_eq_true (by first | (with_reducible assumption) | assumption); have q713 : qat < (l0.length : Int) := of_decide_eq_true (by first | (with_reducible assumption) | assumption); obtain ⟨qps, e713, qhW, qhX, qhY⟩ := qcZ HR0.out qat p713 q713; obtain rfl : qck = qps := (by injection e713); replace qhW := (HB.out.cell (World.block_lt_of_cell? w _ qhW)).trans qhW; replace qhX := (HB.out.cell (World.block_lt_of_cell? w _ qhX)).trans qhX; replace qhY := (HB.out.cell (World.block_lt_of_cell? w _ qhY)).trans qhY; replace p713 := eq_true p713; replace q713 := eq_true q713))
              go_roundg kj51
              case measure => have := HJ6.out; have := HK2.out; have := HJ31.out; have := HJ41.out; have := HJ45.out; have := HJ51.out; omega
              case rel => exact ⟨((wrap64 (qbH + ((qaw l0 qat).f0)))), (qcP), (qdw), (qbV), (wrap64 (qat + 1)), (by first | rfl | (simp; done) | (simp [*]; done)), (by first | rfl | (simp; done) | (simp [*]; done)), (by first | rfl | (simp; done) | (simp [*]; done)), (by first | rfl | (simp; done) | (simp [*]; done)), (by first | rfl | (simp; done) | (simp [*]; done)), H', ⟨by have := HJ6.out; have := HK2.out; have := HJ31.out; have := HJ41.out; have := HJ45.out; have := HJ51.out; omega⟩, ⟨by (with_reducible repeat (first | refine qac ?_ _ | refine qae ?_ | refine qab ?_ _)); exact qaQ.out⟩, ⟨by (with_reducible repeat (first | refine qac ?_ _ | refine qae ?_ | refine qab ?_ _)); exact qaI.out⟩, ⟨by repeat (first | (with_reducible first | exact HB.out | apply qag | apply qad | apply qah | refine qaf ?_ qbM.out | refine qaf ?_ qbY.out) | exact HB.out)⟩⟩
             as_aux_lemma =>
             rw [if_neg c62] at H; have c62b0 : decide (((qaw l0 qat).f1.f0) < t679) = false := decide_eq_false c62; clear c62; have H' := qaa.mk H; clear H; have p706 : 0 ≤ (qat : Int) := of_decide_eq_true (by first | (with_reducible assumption) | assumption); have q706 : qat < (l0.length : Int) := of_decide_eq_true (by first | (with_reducible assumption) | assumption); obtain ⟨qik, e706, qdO, qdP, qdQ⟩ := qcZ HR0.out qat p706 q706; obtain rfl : qck = qik := (by injection e706); replace qdO := (HB.out.cell (World.block_lt_of_cell? w _ qdO)).trans qdO; replace qdP := (HB.out.cell (World.block_lt_of_cell? w _ qdP)).trans qdP; replace qdQ := (HB.out.cell (World.block_lt_of_cell? w _ qdQ)).trans qdQ; replace p706 := eq_true p706; replace q706 := eq_true q706
             go_wp2_with (first | ((with_reducible refine qaT (f := 34) rfl ?_); refine qbs (some 160) rfl rfl Try.func34 (by kernel_rfl) rfl #[.int .i64 ((qaw l0 qat).f1.f0), .int .i64 t679, .int .i64 t680] rfl (by (try simp only [List.map_toArray, List.map_cons, List.map_nil]); first | done | rfl | (simp only [List.length_drop, List.length_take]; rfl)) ?_; (with_reducible refine (qba.calls ((qaw l0 qat).f1.f0) t679 t680 false _ A58.out).mono ?_); rintro e w' ⟨rfl, ⟨nd, rfl⟩⟩; refine ⟨_, rfl, ?_⟩; have p709 : 0 ≤ (qat : Int) := of_decide_eq_true (by first | (with_reducible assumption) | assumption); have q709 : qat < (l0.length : Int) := of_decide_eq_true (by first | (with_reducible assumption) | assumption); obtain ⟨qjX, e709, qey, qez, qeA⟩ := qcZ HR0.out qat p709 q709; obtain rfl : qck = qjX := (by injection e709); replace qey := (HB.out.cell (World.block_lt_of_cell? w _ qey)).trans qey; replace qez := (HB.out.cell (World.block_lt_of_cell? w _ qez)).trans qez; replace qeA := (HB.out.cell (World.block_lt_of_cell? w _ qeA)).trans qeA; replace p709 := eq_true p709; replace q709 := eq_true q709) | (go_at_call 34; (with_reducible refine (qba.calls ((qaw l0 qat).f1.f1) t679 t680 false _ A60.out).mono ?_); rintro e w' ⟨rfl, ⟨nd, rfl⟩⟩; have p712 : 0 ≤ (qat : Int) := of_decide_eq_true (by first | (with_reducible assumption) | assumption); have q712 : qat < (l0.length : Int) := of_decide_eq_true (by first | (with_reducible assumption) | assumption); obtain ⟨qlw, e712, qfJ, qfK, qfL⟩ := qcZ HR0.out qat p712 q712; obtain rfl : qck = qlw := (by injection e712); replace qfJ := (HB.out.cell (World.block_lt_of_cell? w _ qfJ)).trans qfJ; replace qfK := (HB.out.cell (World.block_lt_of_cell? w _ qfK)).trans qfK; replace qfL := (HB.out.cell (World.block_lt_of_cell? w _ qfL)).trans qfL; replace p712 := eq_true p712; replace q712 := eq_true q712))
             go_roundg kj51
             case measure => have := HJ6.out; have := HK2.out; have := HJ31.out; have := HJ41.out; have := HJ45.out; have := HJ51.out; omega
             case rel => exact ⟨((wrap64 (qbH + ((qaw l0 qat).f0)))), (qcP), (qdw), (qbV), (wrap64 (qat + 1)), (by first | rfl | (simp; done) | (simp [*]; done)), (by first | rfl | (simp; done) | (simp [*]; done)), (by first | rfl | (simp; done) | (simp [*]; done)), (by first | rfl | (simp; done) | (simp [*]; done)), (by first | rfl | (simp; done) | (simp [*]; done)), H', ⟨by have := HJ6.out; have := HK2.out; have := HJ31.out; have := HJ41.out; have := HJ45.out; have := HJ51.out; omega⟩, ⟨by (with_reducible repeat (first | refine qac ?_ _ | refine qae ?_ | refine qab ?_ _)); exact qaQ.out⟩, ⟨by (with_reducible repeat (first | refine qac ?_ _ | refine qae ?_ | refine qab ?_ _)); exact qaI.out⟩, ⟨by repeat (first | (with_reducible first | exact HB.out | apply qag | apply qad | apply qah | refine qaf ?_ qbM.out | refine qaf ?_ qbY.out) | exact HB.out)⟩⟩
            rw [if_neg c57] at H
            exact absurd H (by simp)
           rw [if_neg c56] at H
           exact absurd H (by simp)
       rw [if_neg c38] at H
       exact absurd H (by simp)
      rw [if_neg c37] at H
      exact absurd H (by simp)
    rw [if_neg c26] at H
    exact absurd H (by simp)
   as_aux_lemma =>
   rw [if_neg c25] at H
   have c25b0 : decide (qat < (l0.length : Int)) = false := decide_eq_false c25
   clear c25
   replace H := Option.bind_eq_some_iff.mp H
   obtain ⟨⟨t715, t716, t717⟩, A640, H⟩ := H
   replace H : (if t717 = 0 then ((qaK.f qbH qbH).bind fun qi0 => (if (t715 == qi0.1 && (t716 == qi0.2)) = true then ((qc0.f t681 t682 qd5).bind fun t721 => (if t721 = true then ((qaK.f qcN qbV).bind fun qfw => (if (t681 == qfw.1 && (t682 == qfw.2)) = true then ((qcb.f).bind fun t724 => (some t724)) else (some false))) else (some false))) else (some false))) else (some false)) = some r := H
   have A64 := qaa.mk A640
   clear A640
   by_cases c65 : t717 = 0
   ·
    as_aux_lemma =>
    rw [if_pos c65] at H; have c65b0 : (t717 == 0) = true := beq_iff_eq.mpr c65; have c65b1 : (t717 != 0) = false := bne_eq_false_iff_eq.mpr c65; clear c65; replace H := Option.bind_eq_some_iff.mp H; obtain ⟨⟨t719, t720⟩, A660, H⟩ := H; replace H : (if (t715 == t719 && (t716 == t720)) = true then ((qc0.f t681 t682 qd5).bind fun t721 => (if t721 = true then ((qaK.f qcN qbV).bind fun qfw => (if (t681 == qfw.1 && (t682 == qfw.2)) = true then ((qcb.f).bind fun t724 => (some t724)) else (some false))) else (some false))) else (some false)) = some r := H; have A66 := qaa.mk A660; clear A660
    by_cases c67 : (t715 == t719 && (t716 == t720)) = true
    ·
     as_aux_lemma =>
     rw [if_pos c67] at H; have c67b0 : (t715 == t719 && (t716 == t720)) = true := c67
     (try (have c67b1 : decide (t715 = t719 && (t716 == t720)) = true := by simpa using c67))
     (try (have c67b2 : (t715 == t719 && (t716 == t720)) = true := by simpa using c67))
     clear c67; replace H := Option.bind_eq_some_iff.mp H; obtain ⟨t721, A680, H⟩ := H; replace H : (if t721 = true then ((qaK.f qcN qbV).bind fun qfw => (if (t681 == qfw.1 && (t682 == qfw.2)) = true then ((qcb.f).bind fun t724 => (some t724)) else (some false))) else (some false)) = some r := H; have A68 := qaa.mk A680; clear A680
     by_cases c69 : t721 = true
     ·
      as_aux_lemma =>
      subst c69
      have H1 : ((qaK.f qcN qbV).bind fun qfw => (if (t681 == qfw.1 && (t682 == qfw.2)) = true then ((qcb.f).bind fun t724 => (some t724)) else (some false))) = some r := by rw [if_pos rfl] at H; exact H
      clear H; have H := H1; clear H1; replace H := Option.bind_eq_some_iff.mp H; obtain ⟨⟨t722, t723⟩, A700, H⟩ := H; replace H : (if (t681 == t722 && (t682 == t723)) = true then ((qcb.f).bind fun t724 => (some t724)) else (some false)) = some r := H; have A70 := qaa.mk A700; clear A700
      by_cases c71 : (t681 == t722 && (t682 == t723)) = true
      ·
       as_aux_lemma =>
       rw [if_pos c71] at H; have c71b0 : (t681 == t722 && (t682 == t723)) = true := c71
       (try (have c71b1 : decide (t681 = t722 && (t682 == t723)) = true := by simpa using c71))
       (try (have c71b2 : (t681 == t722 && (t682 == t723)) = true := by simpa using c71))
       clear c71; replace H := Option.bind_eq_some_iff.mp H; obtain ⟨t724, A720, H⟩ := H; replace H : (some t724) = some r := H; have A72 := qaa.mk A720; clear A720; obtain rfl := Option.some.inj H
       try go_wp2_with (first | ((with_reducible refine qaT (f := 19) rfl ?_); refine qbs (some 201) rfl rfl Try.func19 (by kernel_rfl) rfl #[.slice A0 l0.length c0, .int .i64 0, .int .i64 20] rfl (by (try simp only [List.map_toArray, List.map_cons, List.map_nil]); first | done | rfl | (simp only [List.length_drop, List.length_take]; rfl)) ?_; (with_reducible refine (qaL.calls k2 _ _ l0 0 20 t715 t716 t717 _ ?side1 ?side2 A64.out).mono ?_); (case side1 => repeat (first | exact (Kd.C_below HR0.out HB.out) | (with_reducible refine Kd.C_alloc ?_ _) | (with_reducible refine Kd.C_drewN ?_ _) | (with_reducible refine Kd.C_drew ?_))); (case side2 => exact HC0.out); rintro e w73 ⟨rfl, hb⟩; refine ⟨_, rfl, ?_⟩; have n0_ := qaa.mk (qar (g := qbP) (o := .cells #[.int .i64 a1_0, .int .i64 a1_1] 23 (0, 0)) (by (with_reducible repeat (first | refine qac ?_ _ | refine qae ?_ | refine qab ?_ _)); exact qaQ.out) hb); have n1_ := qaa.mk (qar (g := qbJ) (o := .cells #[.int .i64 t681, .int .i64 t682] 25 (0, 0)) (by (with_reducible repeat (first | refine qac ?_ _ | refine qae ?_ | refine qab ?_ _)); exact qaI.out) hb); have n2_ := qaa.mk (qaA (by repeat (first | (with_reducible first | exact HB.out | apply qag | apply qad | apply qah | refine qaf ?_ qbM.out | refine qaf ?_ qbY.out) | exact HB.out)) hb); clear qaQ; clear qaI; clear HB; have qaQ := n0_; have qaI := n1_; have HB := n2_; clear n0_ n1_ n2_; (try clear hb); (try clear hb2); (try clear hk); (try clear hi)) | ((with_reducible refine qa1 (N := 17) rfl ?_); (try (refine qdF (by rfl) ?_; dsimp only)); refine qbq ?hg (N := 17) ?hd (cs := #[.int .i64 0, .int .i64 0]) (t := 25) ?hr ?_; (case hd => rfl); (case hg => rfl); (case hr => first | (go_simp; done) | (go_simp; rfl)); intro qa7 hg w74 hbox hb; have n0_ := qaa.mk (qar (g := qbP) (o := .cells #[.int .i64 a1_0, .int .i64 a1_1] 23 (0, 0)) (by (with_reducible repeat (first | refine qac ?_ _ | refine qae ?_ | refine qab ?_ _)); exact qaQ.out) hb); have n1_ := qaa.mk (qar (g := qbJ) (o := .cells #[.int .i64 t681, .int .i64 t682] 25 (0, 0)) (by (with_reducible repeat (first | refine qac ?_ _ | refine qae ?_ | refine qab ?_ _)); exact qaI.out) hb); have n2_ := qaa.mk (qaA (by repeat (first | (with_reducible first | exact HB.out | apply qag | apply qad | apply qah | refine qaf ?_ qbM.out | refine qaf ?_ qbY.out) | exact HB.out)) hb); have n3_ := qaa.mk (hbox); have n4_ := qaa.mk ((by rw [hg]; exact (qav (by repeat (first | (with_reducible first | exact HB.out | apply qag | apply qad | apply qah | refine qaf ?_ qbM.out | refine qaf ?_ qbY.out) | exact HB.out))) : w.heap.size ≤ qa7)); have n5_ := qaa.mk ((by rw [hg]; exact (qav (by repeat (first | (with_reducible first | exact HB.out | apply qag | apply qad | apply qah | refine qaf ?_ qbM.out | refine qaf ?_ qbY.out) | exact HB.out))) : w.heap.size ≤ qa7)); have n6_ := qaa.mk ((by rw [hg]; exact Nat.ne_of_lt (qaN (g := qbP) (o := .cells #[.int .i64 a1_0, .int .i64 a1_1] 23 (0, 0)) (by (with_reducible repeat (first | refine qac ?_ _ | refine qae ?_ | refine qab ?_ _)); exact qaQ.out)) : qbP ≠ qa7)); have n7_ := qaa.mk ((by rw [hg]; exact Nat.ne_of_gt (qaN (g := qbP) (o := .cells #[.int .i64 a1_0, .int .i64 a1_1] 23 (0, 0)) (by (with_reducible repeat (first | refine qac ?_ _ | refine qae ?_ | refine qab ?_ _)); exact qaQ.out)) : qa7 ≠ qbP)); have n8_ := qaa.mk ((by rw [hg]; exact Nat.ne_of_lt (qaN (g := qbJ) (o := .cells #[.int .i64 t681, .int .i64 t682] 25 (0, 0)) (by (with_reducible repeat (first | refine qac ?_ _ | refine qae ?_ | refine qab ?_ _)); exact qaI.out)) : qbJ ≠ qa7)); have n9_ := qaa.mk ((by rw [hg]; exact Nat.ne_of_gt (qaN (g := qbJ) (o := .cells #[.int .i64 t681, .int .i64 t682] 25 (0, 0)) (by (with_reducible repeat (first | refine qac ?_ _ | refine qae ?_ | refine qab ?_ _)); exact qaI.out)) : qa7 ≠ qbJ)); clear qaQ; clear qaI; clear HB; have qaQ := n0_; have qaI := n1_; have HB := n2_; have qa6 := n3_; have qnu := n4_; have qd9 := n5_; have qdm := n6_; have qfs := n7_; have qdn := n8_; have qft := n9_; clear n0_ n1_ n2_ n3_ n4_ n5_ n6_ n7_ n8_ n9_; clear hb hbox hg; have qDE := qfs.out; have qEi := qdm.out; have quS := qft.out; have qu8 := qdn.out; have qoJ : w74.cell? ⟨qa7, 0, none⟩ = some (.int .i64 0) := (qai qa6.out 0).trans rfl; have qst : w74.cell? ⟨qa7, 1, none⟩ = some (.int .i64 0) := (qai qa6.out 1).trans rfl; have qoN := qaj qa6.out 0; have qs5 := qaj qa6.out 1))
       have n0_ : qaa (((w74.setCell ⟨qa7, 0, none⟩ (.int .i64 t715)).setCell ⟨qa7, 1, none⟩ (.int .i64 t716)).heap[qbP]? = some (.cells #[.int .i64 a1_0, .int .i64 a1_1] 23 (0, 0))) := ⟨by (with_reducible repeat (first | refine qac ?_ _ | refine qae ?_ | refine qab ?_ _)); refine qau ?_ qdm.out _; (with_reducible repeat (first | refine qac ?_ _ | refine qae ?_ | refine qab ?_ _)); refine qau ?_ qdm.out _; (with_reducible repeat (first | refine qac ?_ _ | refine qae ?_ | refine qab ?_ _)); exact qaQ.out⟩; have n1_ : qaa (((w74.setCell ⟨qa7, 0, none⟩ (.int .i64 t715)).setCell ⟨qa7, 1, none⟩ (.int .i64 t716)).heap[qbJ]? = some (.cells #[.int .i64 t681, .int .i64 t682] 25 (0, 0))) := ⟨by (with_reducible repeat (first | refine qac ?_ _ | refine qae ?_ | refine qab ?_ _)); refine qau ?_ qdn.out _; (with_reducible repeat (first | refine qac ?_ _ | refine qae ?_ | refine qab ?_ _)); refine qau ?_ qdn.out _; (with_reducible repeat (first | refine qac ?_ _ | refine qae ?_ | refine qab ?_ _)); exact qaI.out⟩; have n2_ : qaa (((w74.setCell ⟨qa7, 0, none⟩ (.int .i64 t715)).setCell ⟨qa7, 1, none⟩ (.int .i64 t716)).heap[qa7]? = some (.cells #[.int .i64 t715, .int .i64 t716] 25 (0, 0))) := ⟨by (with_reducible repeat (first | refine qac ?_ _ | refine qae ?_ | refine qab ?_ _)); refine qaH (cs := #[.int .i64 t715, .int .i64 0]) ?_ 1 _ rfl; (with_reducible repeat (first | refine qac ?_ _ | refine qae ?_ | refine qab ?_ _)); refine qaH (cs := #[.int .i64 0, .int .i64 0]) ?_ 0 _ rfl; (with_reducible repeat (first | refine qac ?_ _ | refine qae ?_ | refine qab ?_ _)); exact qa6.out⟩; have n3_ : qaa (Below w.heap.size w ((w74.setCell ⟨qa7, 0, none⟩ (.int .i64 t715)).setCell ⟨qa7, 1, none⟩ (.int .i64 t716))) := ⟨by repeat (first | (with_reducible first | exact HB.out | apply qag | apply qad | apply qah | refine qaf ?_ qbM.out | refine qaf ?_ qbY.out | refine qaf ?_ qd9.out) | exact HB.out)⟩
       (try clear qaQ)
       (try clear qaI)
       (try clear qa6)
       (try clear HB)
       generalize ((w74.setCell ⟨qa7, 0, none⟩ (.int .i64 t715)).setCell ⟨qa7, 1, none⟩ (.int .i64 t716)) = w78 at n0_ n1_ n2_ n3_ ⊢
       have qaQ := n0_; have qaI := n1_; have qa6 := n2_; have HB := n3_; clear n0_ n1_ n2_ n3_; have n0_ := qaa.mk (qae qaQ.out); have n1_ := qaa.mk (qae qaI.out); have n2_ := qaa.mk (qae qa6.out); have n3_ := qaa.mk (qah HB.out); clear qaQ qaI qa6 HB; have qaQ := n0_; have qaI := n1_; have qa6 := n2_; have HB := n3_; clear n0_ n1_ n2_ n3_; refine qfM (n := 25) (S := fun w' => w'.cell? ⟨qa7, 0, none⟩ = some (.int .i64 t715) ∧ w'.cell? ⟨qa7, 1, none⟩ = some (.int .i64 t716) ∧ w'.cell? ⟨qbJ, 0, none⟩ = some (.int .i64 t681) ∧ w'.cell? ⟨qbJ, 1, none⟩ = some (.int .i64 t682)) (ds := []) (qas 25 0) (by kernel_rfl) rfl rfl ⟨(qai qa6.out 0).trans rfl, (qai qa6.out 1).trans rfl, (qai qaI.out 0).trans rfl, (qai qaI.out 1).trans rfl⟩ (fun hHeld => ?_); refine qel qak.tab21 qak.bits21 (fun HT_ HW_ => ?_)
       generalize w78.drew = w79 at qaQ qaI qa6 HB hHeld ⊢
       refine qax 0 (some 204) (qas 25 1) rfl rfl HT_.out (by kernel_rfl) (fun _ _ _ h => h) ⟨.inl ⟨by rfl, fun w' => by go_simp; with_reducible rfl⟩, by simp only [qaq, qam, qap, qao, qan, qaB, qaC]; rfl, ?_⟩; refine qax 1 (some 205) (qas 25 3) rfl rfl HT_.out (by kernel_rfl) (fun _ _ _ h => h) ⟨.inl ⟨by rfl, fun w' => by go_simp; with_reducible rfl⟩, by simp only [qaq, qam, qap, qao, qan, qaB, qaC]; rfl, ?_⟩; refine qax 2 (some 206) (qas 25 7) rfl rfl HT_.out (by kernel_rfl) (fun _ _ _ h => h) ⟨.inl ⟨by rfl, fun w' => by go_simp; with_reducible rfl⟩, by simp only [qaq, qam, qap, qao, qan, qaB, qaC]; rfl, ?_⟩; refine qax 4 (some 208) (qas 25 23) rfl rfl HT_.out (by kernel_rfl) (fun _ _ _ h => h) ⟨.inl ⟨by rfl, fun w' => by go_simp; with_reducible rfl⟩, by simp only [qaq, qam, qap, qao, qan, qaB, qaC]; rfl, ?_⟩; refine qax 5 (some 209) (qas 25 55) rfl rfl HT_.out (by kernel_rfl) (fun _ _ _ h => h) ⟨.inl ⟨by rfl, fun w' => by go_simp; with_reducible rfl⟩, by simp only [qaq, qam, qap, qao, qan, qaB, qaC]; rfl, ?_⟩; refine qcD 3 (some 207) (qas 25 63) rfl rfl (qcE HT_.out HW_.out (by kernel_rfl)) (fun _ _ _ h => h) hHeld ⟨.inl ⟨by rfl, by rintro w' ⟨s0, s1, s2, s3⟩; go_simp; with_reducible rfl⟩, by simp only [qaq, qam, qap, qao, qan, qaB, qaC]; rfl, ?_⟩; refine one_ (i := 6) (N := some 210) (qas 25 127) rfl rfl (qdd HT_.out (by kernel_rfl)) (by decide) (fun K hK => ?_); refine qd4 Try.func43 (by kernel_rfl) rfl #[.int .i64 qbH, .int .i64 qbH] (by rfl) rfl rfl (by (try simp only [List.map_toArray, List.map_cons, List.map_nil]); first | done | rfl | (simp only [List.length_drop, List.length_take]; rfl)) ?_
       with_reducible refine (qaK.calls qbH qbH t719 t720 _ A66.out).mono ?_
       rintro e w80 ⟨rfl, hb⟩; refine ⟨_, rfl, ?_⟩; have n0_ := qaa.mk (qar (g := qbP) (o := .cells #[.int .i64 a1_0, .int .i64 a1_1] 23 (0, 0)) (by (with_reducible repeat (first | refine qac ?_ _ | refine qae ?_ | refine qab ?_ _)); exact qaQ.out) hb); have n1_ := qaa.mk (qar (g := qbJ) (o := .cells #[.int .i64 t681, .int .i64 t682] 25 (0, 0)) (by (with_reducible repeat (first | refine qac ?_ _ | refine qae ?_ | refine qab ?_ _)); exact qaI.out) hb); have n2_ := qaa.mk (qar (g := qa7) (o := .cells #[.int .i64 t715, .int .i64 t716] 25 (0, 0)) (by (with_reducible repeat (first | refine qac ?_ _ | refine qae ?_ | refine qab ?_ _)); exact qa6.out) hb); have n3_ := qaa.mk (qaA (by repeat (first | (with_reducible first | exact HB.out | apply qag | apply qad | apply qah | refine qaf ?_ qbM.out | refine qaf ?_ qbY.out | refine qaf ?_ qd9.out) | exact HB.out)) hb); clear qaQ qaI qa6 HB; have qaQ := n0_; have qaI := n1_; have qa6 := n2_; have HB := n3_; clear n0_ n1_ n2_ n3_
       (try clear hb)
       (try clear hb2)
       (try clear hk)
       (try clear hi)
       refine hK.out _ _ ⟨(qai qa6.out 0).trans rfl, (qai qa6.out 1).trans rfl, (qai qaI.out 0).trans rfl, (qai qaI.out 1).trans rfl⟩ (fun hHeld => ?_); clear hK K; refine qcX (a' := ?_) ?_ ?_; rotate_left
       ·
        show Act.put _ (some 210) _ = _
        simp only [qaq, qam, qap, qao, qan, qaB, qaC]; rfl
       refine qax 7 (some 211) (qas 25 255) rfl rfl HT_.out (by kernel_rfl) (fun _ _ _ h => h) ⟨.inl ⟨by rfl, fun w' => by go_simp; with_reducible rfl⟩, by simp only [qaq, qam, qap, qao, qan, qaB, qaC]; rfl, ?_⟩; refine qax 8 (some 212) (qas 25 511) rfl rfl HT_.out (by kernel_rfl) (fun _ _ _ h => h) ⟨.inl ⟨by rfl, fun w' => by go_simp; with_reducible rfl⟩, by simp only [qaq, qam, qap, qao, qan, qaB, qaC]; rfl, ?_⟩; refine qax 9 (some 213) (qas 25 1023) rfl rfl HT_.out (by kernel_rfl) (fun _ _ _ h => h) ⟨.inl ⟨by rfl, fun w' => by go_simp; with_reducible rfl⟩, by simp only [qaq, qam, qap, qao, qan, qaB, qaC]; rfl, ?_⟩; refine qax 11 (some 215) (qas 25 3071) rfl rfl HT_.out (by kernel_rfl) (fun _ _ _ h => h) ⟨.inl ⟨by rfl, fun w' => by go_simp; with_reducible rfl⟩, by simp only [qaq, qam, qap, qao, qan, qaB, qaC]; rfl, ?_⟩; refine qcD 10 (some 214) (qas 25 4095) rfl rfl (qcE HT_.out HW_.out (by kernel_rfl)) (fun _ _ _ h => h) hHeld ⟨.inl ⟨by rfl, by rintro w' ⟨s0, s1, s2, s3⟩; go_simp; with_reducible rfl⟩, by simp only [qaq, qam, qap, qao, qan, qaB, qaC]; rfl, ?_⟩; refine one_ (i := 12) (N := some 216) (qas 25 8191) rfl rfl (qdd HT_.out (by kernel_rfl)) (by decide) (fun K hK => ?_); refine qd4 Try.func44 (by kernel_rfl) rfl #[.agg #[.int .i64 t681, .int .i64 t682], .int .i64 qd5] (by rfl) rfl rfl (by (try simp only [List.map_toArray, List.map_cons, List.map_nil]); first | done | rfl | (simp only [List.length_drop, List.length_take]; rfl)) ?_
       with_reducible refine (qc0.calls t681 t682 qd5 true _ A68.out).mono ?_
       rintro e w81 ⟨rfl, hb⟩; refine ⟨_, rfl, ?_⟩; have n0_ := qaa.mk (qar (g := qbP) (o := .cells #[.int .i64 a1_0, .int .i64 a1_1] 23 (0, 0)) (by (with_reducible repeat (first | refine qac ?_ _ | refine qae ?_ | refine qab ?_ _)); exact qaQ.out) hb); have n1_ := qaa.mk (qar (g := qbJ) (o := .cells #[.int .i64 t681, .int .i64 t682] 25 (0, 0)) (by (with_reducible repeat (first | refine qac ?_ _ | refine qae ?_ | refine qab ?_ _)); exact qaI.out) hb); have n2_ := qaa.mk (qar (g := qa7) (o := .cells #[.int .i64 t715, .int .i64 t716] 25 (0, 0)) (by (with_reducible repeat (first | refine qac ?_ _ | refine qae ?_ | refine qab ?_ _)); exact qa6.out) hb); have n3_ := qaa.mk (qaA (by repeat (first | (with_reducible first | exact HB.out | apply qag | apply qad | apply qah | refine qaf ?_ qbM.out | refine qaf ?_ qbY.out | refine qaf ?_ qd9.out) | exact HB.out)) hb); clear qaQ qaI qa6 HB; have qaQ := n0_; have qaI := n1_; have qa6 := n2_; have HB := n3_; clear n0_ n1_ n2_ n3_
       (try clear hb)
       (try clear hb2)
       (try clear hk)
       (try clear hi)
       refine hK.out _ _ ⟨(qai qa6.out 0).trans rfl, (qai qa6.out 1).trans rfl, (qai qaI.out 0).trans rfl, (qai qaI.out 1).trans rfl⟩ (fun hHeld => ?_); clear hK K; refine qcX (a' := ?_) ?_ ?_; rotate_left
       ·
        show Act.put _ (some 216) _ = _
        simp only [qaq, qam, qap, qao, qan, qaB, qaC]; rfl
       refine qax 13 (some 217) (qas 25 16383) rfl rfl HT_.out (by kernel_rfl) (fun _ _ _ h => h) ⟨.inl ⟨by rfl, fun w' => by go_simp; with_reducible rfl⟩, by simp only [qaq, qam, qap, qao, qan, qaB, qaC]; rfl, ?_⟩; refine qax 14 (some 218) (qas 25 32767) rfl rfl HT_.out (by kernel_rfl) (fun _ _ _ h => h) ⟨.inl ⟨by rfl, fun w' => by go_simp; with_reducible rfl⟩, by simp only [qaq, qam, qap, qao, qan, qaB, qaC]; rfl, ?_⟩; refine qax 16 (some 220) (qas 25 98303) rfl rfl HT_.out (by kernel_rfl) (fun _ _ _ h => h) ⟨.inl ⟨by rfl, fun w' => by go_simp; with_reducible rfl⟩, by simp only [qaq, qam, qap, qao, qan, qaB, qaC]; rfl, ?_⟩; refine qax 17 (some 221) (qas 25 229375) rfl rfl HT_.out (by kernel_rfl) (fun _ _ _ h => h) ⟨.inl ⟨by rfl, fun w' => by go_simp; with_reducible rfl⟩, by simp only [qaq, qam, qap, qao, qan, qaB, qaC]; rfl, ?_⟩; refine qcD 15 (some 219) (qas 25 262143) rfl rfl (qcE HT_.out HW_.out (by kernel_rfl)) (fun _ _ _ h => h) hHeld ⟨.inl ⟨by rfl, by rintro w' ⟨s0, s1, s2, s3⟩; go_simp; with_reducible rfl⟩, by simp only [qaq, qam, qap, qao, qan, qaB, qaC]; rfl, ?_⟩; refine one_ (i := 18) (N := some 222) (qas 25 524287) rfl rfl (qdd HT_.out (by kernel_rfl)) (by decide) (fun K hK => ?_); refine qd4 Try.func43 (by kernel_rfl) rfl #[.int .i64 qcN, .int .i64 qbV] (by rfl) rfl rfl (by (try simp only [List.map_toArray, List.map_cons, List.map_nil]); first | done | rfl | (simp only [List.length_drop, List.length_take]; rfl)) ?_
       with_reducible refine (qaK.calls qcN qbV t722 t723 _ A70.out).mono ?_
       rintro e w82 ⟨rfl, hb⟩; refine ⟨_, rfl, ?_⟩; have n0_ := qaa.mk (qar (g := qbP) (o := .cells #[.int .i64 a1_0, .int .i64 a1_1] 23 (0, 0)) (by (with_reducible repeat (first | refine qac ?_ _ | refine qae ?_ | refine qab ?_ _)); exact qaQ.out) hb); have n1_ := qaa.mk (qar (g := qbJ) (o := .cells #[.int .i64 t681, .int .i64 t682] 25 (0, 0)) (by (with_reducible repeat (first | refine qac ?_ _ | refine qae ?_ | refine qab ?_ _)); exact qaI.out) hb); have n2_ := qaa.mk (qar (g := qa7) (o := .cells #[.int .i64 t715, .int .i64 t716] 25 (0, 0)) (by (with_reducible repeat (first | refine qac ?_ _ | refine qae ?_ | refine qab ?_ _)); exact qa6.out) hb); have n3_ := qaa.mk (qaA (by repeat (first | (with_reducible first | exact HB.out | apply qag | apply qad | apply qah | refine qaf ?_ qbM.out | refine qaf ?_ qbY.out | refine qaf ?_ qd9.out) | exact HB.out)) hb); clear qaQ qaI qa6 HB; have qaQ := n0_; have qaI := n1_; have qa6 := n2_; have HB := n3_; clear n0_ n1_ n2_ n3_
       (try clear hb)
       (try clear hb2)
       (try clear hk)
       (try clear hi)
       refine hK.out _ _ ⟨(qai qa6.out 0).trans rfl, (qai qa6.out 1).trans rfl, (qai qaI.out 0).trans rfl, (qai qaI.out 1).trans rfl⟩ (fun hHeld => ?_); clear hK K; refine qcX (a' := ?_) ?_ ?_; rotate_left
       ·
        show Act.put _ (some 222) _ = _
        simp only [qaq, qam, qap, qao, qan, qaB, qaC]; rfl
       refine qax 19 (some 223) (qas 25 1048575) rfl rfl HT_.out (by kernel_rfl) (fun _ _ _ h => h) ⟨.inl ⟨by rfl, fun w' => by go_simp; with_reducible rfl⟩, by simp only [qaq, qam, qap, qao, qan, qaB, qaC]; rfl, ?_⟩; refine qax 20 (some 224) (qas 25 2097151) rfl rfl HT_.out (by kernel_rfl) (fun _ _ _ h => h) ⟨.inl ⟨by rfl, fun w' => by go_simp; with_reducible rfl⟩, by simp only [qaq, qam, qap, qao, qan, qaB, qaC]; rfl, ?_⟩; refine qax 21 (some 225) (qas 25 4194303) rfl rfl HT_.out (by kernel_rfl) (fun _ _ _ h => h) ⟨.inl ⟨by rfl, fun w' => by go_simp; with_reducible rfl⟩, by simp only [qaq, qam, qap, qao, qan, qaB, qaC]; rfl, ?_⟩; refine one_ (i := 22) (N := some 226) (qas 25 8388607) rfl rfl (qdd HT_.out (by kernel_rfl)) (by decide) (fun K hK => ?_); refine qd4 Try.func21 (by kernel_rfl) rfl #[] (by rfl) rfl rfl (by (try simp only [List.map_toArray, List.map_cons, List.map_nil]); first | done | rfl | (simp only [List.length_drop, List.length_take]; rfl)) ?_
       with_reducible refine (qcb.calls  t724 _ A72.out).mono ?_
       rintro e w83 ⟨rfl, hb⟩; refine ⟨_, rfl, ?_⟩; have n0_ := qaa.mk (qar (g := qbP) (o := .cells #[.int .i64 a1_0, .int .i64 a1_1] 23 (0, 0)) (by (with_reducible repeat (first | refine qac ?_ _ | refine qae ?_ | refine qab ?_ _)); exact qaQ.out) hb); have n1_ := qaa.mk (qar (g := qbJ) (o := .cells #[.int .i64 t681, .int .i64 t682] 25 (0, 0)) (by (with_reducible repeat (first | refine qac ?_ _ | refine qae ?_ | refine qab ?_ _)); exact qaI.out) hb); have n2_ := qaa.mk (qar (g := qa7) (o := .cells #[.int .i64 t715, .int .i64 t716] 25 (0, 0)) (by (with_reducible repeat (first | refine qac ?_ _ | refine qae ?_ | refine qab ?_ _)); exact qa6.out) hb); have n3_ := qaa.mk (qaA (by repeat (first | (with_reducible first | exact HB.out | apply qag | apply qad | apply qah | refine qaf ?_ qbM.out | refine qaf ?_ qbY.out | refine qaf ?_ qd9.out) | exact HB.out)) hb); clear qaQ qaI qa6 HB; have qaQ := n0_; have qaI := n1_; have qa6 := n2_; have HB := n3_; clear n0_ n1_ n2_ n3_
       (try clear hb)
       (try clear hb2)
       (try clear hk)
       (try clear hi)
       refine hK.out _ _ ⟨(qai qa6.out 0).trans rfl, (qai qa6.out 1).trans rfl, (qai qaI.out 0).trans rfl, (qai qaI.out 1).trans rfl⟩ (fun hHeld => ?_); clear hK K; refine qcX (a' := ?_) ?_ ?_; rotate_left
       ·
        show Act.put _ (some 226) _ = _
        simp only [qaq, qam, qap, qao, qan, qaB, qaC]; rfl
       refine qax 23 (some 227) (qas 25 16777215) rfl rfl HT_.out (by kernel_rfl) (fun _ _ _ h => h) ⟨.inl ⟨by rfl, fun w' => by go_simp; with_reducible rfl⟩, by simp only [qaq, qam, qap, qao, qan, qaB, qaC]; rfl, ?_⟩; refine qax 24 (some 6) (qas 25 33554431) rfl rfl HT_.out (by kernel_rfl) (fun _ _ _ h => h) ⟨.inl ⟨by rfl, fun w' => by go_simp; with_reducible rfl⟩, by simp only [qaq, qam, qap, qao, qan, qaB, qaC]; rfl, ?_⟩; refine qgo (qe9 HT_.out (by kernel_rfl)) ?_
       try go_wp2
       go_ret
       exact ⟨by first | rfl | (simp [qaO, qaP] <;> rfl) | (simp [*, qaO, qaP] <;> rfl), by repeat (first | (with_reducible first | exact HB.out | apply qag | apply qad | apply qah | refine qaf ?_ qbM.out | refine qaf ?_ qbY.out | refine qaf ?_ qd9.out) | exact HB.out)⟩
      as_aux_lemma =>
      rw [if_neg c71] at H
      have c71b0 : (t681 == t722 && (t682 == t723)) = false := by simpa using c71
      (try (have c71b1 : decide (t681 = t722 && (t682 == t723)) = false := by simpa using c71))
      (try (have c71b2 : (t681 == t722 && (t682 == t723)) = false := by simpa using c71))
      (try (have c71b3 : ¬ (t681 = t722 && (t682 == t723)) := by simpa using c71))
      clear c71; obtain rfl := Option.some.inj H
      try go_wp2_with (first | ((with_reducible refine qaT (f := 19) rfl ?_); refine qbs (some 201) rfl rfl Try.func19 (by kernel_rfl) rfl #[.slice A0 l0.length c0, .int .i64 0, .int .i64 20] rfl (by (try simp only [List.map_toArray, List.map_cons, List.map_nil]); first | done | rfl | (simp only [List.length_drop, List.length_take]; rfl)) ?_; (with_reducible refine (qaL.calls k2 _ _ l0 0 20 t715 t716 t717 _ ?side1 ?side2 A64.out).mono ?_); (case side1 => repeat (first | exact (Kd.C_below HR0.out HB.out) | (with_reducible refine Kd.C_alloc ?_ _) | (with_reducible refine Kd.C_drewN ?_ _) | (with_reducible refine Kd.C_drew ?_))); (case side2 => exact HC0.out); rintro e w84 ⟨rfl, hb⟩; refine ⟨_, rfl, ?_⟩; have n0_ := qaa.mk (qar (g := qbP) (o := .cells #[.int .i64 a1_0, .int .i64 a1_1] 23 (0, 0)) (by (with_reducible repeat (first | refine qac ?_ _ | refine qae ?_ | refine qab ?_ _)); exact qaQ.out) hb); have n1_ := qaa.mk (qar (g := qbJ) (o := .cells #[.int .i64 t681, .int .i64 t682] 25 (0, 0)) (by (with_reducible repeat (first | refine qac ?_ _ | refine qae ?_ | refine qab ?_ _)); exact qaI.out) hb); have n2_ := qaa.mk (qaA (by repeat (first | (with_reducible first | exact HB.out | apply qag | apply qad | apply qah | refine qaf ?_ qbM.out | refine qaf ?_ qbY.out) | exact HB.out)) hb); clear qaQ; clear qaI; clear HB; have qaQ := n0_; have qaI := n1_; have HB := n2_; clear n0_ n1_ n2_; (try clear hb); (try clear hb2); (try clear hk); (try clear hi)) | ((with_reducible refine qa1 (N := 17) rfl ?_); (try (refine qdF (by rfl) ?_; dsimp only)); refine qbq ?hg (N := 17) ?hd (cs := #[.int .i64 0, .int .i64 0]) (t := 25) ?hr ?_; (case hd => rfl); (case hg => rfl); (case hr => first | (go_simp; done) | (go_simp; rfl)); intro qa7 hg w85 hbox hb; have n0_ := qaa.mk (qar (g := qbP) (o := .cells #[.int .i64 a1_0, .int .i64 a1_1] 23 (0, 0)) (by (with_reducible repeat (first | refine qac ?_ _ | refine qae ?_ | refine qab ?_ _)); exact qaQ.out) hb); have n1_ := qaa.mk (qar (g := qbJ) (o := .cells #[.int .i64 t681, .int .i64 t682] 25 (0, 0)) (by (with_reducible repeat (first | refine qac ?_ _ | refine qae ?_ | refine qab ?_ _)); exact qaI.out) hb); have n2_ := qaa.mk (qaA (by repeat (first | (with_reducible first | exact HB.out | apply qag | apply qad | apply qah | refine qaf ?_ qbM.out | refine qaf ?_ qbY.out) | exact HB.out)) hb); have n3_ := qaa.mk (hbox); have n4_ := qaa.mk ((by rw [hg]; exact (qav (by repeat (first | (with_reducible first | exact HB.out | apply qag | apply qad | apply qah | refine qaf ?_ qbM.out | refine qaf ?_ qbY.out) | exact HB.out))) : w.heap.size ≤ qa7)); have n5_ := qaa.mk ((by rw [hg]; exact (qav (by repeat (first | (with_reducible first | exact HB.out | apply qag | apply qad | apply qah | refine qaf ?_ qbM.out | refine qaf ?_ qbY.out) | exact HB.out))) : w.heap.size ≤ qa7)); have n6_ := qaa.mk ((by rw [hg]; exact Nat.ne_of_lt (qaN (g := qbP) (o := .cells #[.int .i64 a1_0, .int .i64 a1_1] 23 (0, 0)) (by (with_reducible repeat (first | refine qac ?_ _ | refine qae ?_ | refine qab ?_ _)); exact qaQ.out)) : qbP ≠ qa7)); have n7_ := qaa.mk ((by rw [hg]; exact Nat.ne_of_gt (qaN (g := qbP) (o := .cells #[.int .i64 a1_0, .int .i64 a1_1] 23 (0, 0)) (by (with_reducible repeat (first | refine qac ?_ _ | refine qae ?_ | refine qab ?_ _)); exact qaQ.out)) : qa7 ≠ qbP)); have n8_ := qaa.mk ((by rw [hg]; exact Nat.ne_of_lt (qaN (g := qbJ) (o := .cells #[.int .i64 t681, .int .i64 t682] 25 (0, 0)) (by (with_reducible repeat (first | refine qac ?_ _ | refine qae ?_ | refine qab ?_ _)); exact qaI.out)) : qbJ ≠ qa7)); have n9_ := qaa.mk ((by rw [hg]; exact Nat.ne_of_gt (qaN (g := qbJ) (o := .cells #[.int .i64 t681, .int .i64 t682] 25 (0, 0)) (by (with_reducible repeat (first | refine qac ?_ _ | refine qae ?_ | refine qab ?_ _)); exact qaI.out)) : qa7 ≠ qbJ)); clear qaQ; clear qaI; clear HB; have qaQ := n0_; have qaI := n1_; have HB := n2_; have qa6 := n3_; have qnu := n4_; have qd9 := n5_; have qdm := n6_; have qfs := n7_; have qdn := n8_; have qft := n9_; clear n0_ n1_ n2_ n3_ n4_ n5_ n6_ n7_ n8_ n9_; clear hb hbox hg; have quT := qfs.out; have qu9 := qdm.out; have qDK := qft.out; have qEo := qdn.out; have qxY : w85.cell? ⟨qa7, 0, none⟩ = some (.int .i64 0) := (qai qa6.out 0).trans rfl; have qxZ : w85.cell? ⟨qa7, 1, none⟩ = some (.int .i64 0) := (qai qa6.out 1).trans rfl; have qzY := qaj qa6.out 0; have qzZ := qaj qa6.out 1))
      have n0_ : qaa (((w85.setCell ⟨qa7, 0, none⟩ (.int .i64 t715)).setCell ⟨qa7, 1, none⟩ (.int .i64 t716)).heap[qbP]? = some (.cells #[.int .i64 a1_0, .int .i64 a1_1] 23 (0, 0))) := ⟨by (with_reducible repeat (first | refine qac ?_ _ | refine qae ?_ | refine qab ?_ _)); refine qau ?_ qdm.out _; (with_reducible repeat (first | refine qac ?_ _ | refine qae ?_ | refine qab ?_ _)); refine qau ?_ qdm.out _; (with_reducible repeat (first | refine qac ?_ _ | refine qae ?_ | refine qab ?_ _)); exact qaQ.out⟩; have n1_ : qaa (((w85.setCell ⟨qa7, 0, none⟩ (.int .i64 t715)).setCell ⟨qa7, 1, none⟩ (.int .i64 t716)).heap[qbJ]? = some (.cells #[.int .i64 t681, .int .i64 t682] 25 (0, 0))) := ⟨by (with_reducible repeat (first | refine qac ?_ _ | refine qae ?_ | refine qab ?_ _)); refine qau ?_ qdn.out _; (with_reducible repeat (first | refine qac ?_ _ | refine qae ?_ | refine qab ?_ _)); refine qau ?_ qdn.out _; (with_reducible repeat (first | refine qac ?_ _ | refine qae ?_ | refine qab ?_ _)); exact qaI.out⟩; have n2_ : qaa (((w85.setCell ⟨qa7, 0, none⟩ (.int .i64 t715)).setCell ⟨qa7, 1, none⟩ (.int .i64 t716)).heap[qa7]? = some (.cells #[.int .i64 t715, .int .i64 t716] 25 (0, 0))) := ⟨by (with_reducible repeat (first | refine qac ?_ _ | refine qae ?_ | refine qab ?_ _)); refine qaH (cs := #[.int .i64 t715, .int .i64 0]) ?_ 1 _ rfl; (with_reducible repeat (first | refine qac ?_ _ | refine qae ?_ | refine qab ?_ _)); refine qaH (cs := #[.int .i64 0, .int .i64 0]) ?_ 0 _ rfl; (with_reducible repeat (first | refine qac ?_ _ | refine qae ?_ | refine qab ?_ _)); exact qa6.out⟩; have n3_ : qaa (Below w.heap.size w ((w85.setCell ⟨qa7, 0, none⟩ (.int .i64 t715)).setCell ⟨qa7, 1, none⟩ (.int .i64 t716))) := ⟨by repeat (first | (with_reducible first | exact HB.out | apply qag | apply qad | apply qah | refine qaf ?_ qbM.out | refine qaf ?_ qbY.out | refine qaf ?_ qd9.out) | exact HB.out)⟩
      (try clear qaQ)
      (try clear qaI)
      (try clear qa6)
      (try clear HB)
      generalize ((w85.setCell ⟨qa7, 0, none⟩ (.int .i64 t715)).setCell ⟨qa7, 1, none⟩ (.int .i64 t716)) = w89 at n0_ n1_ n2_ n3_ ⊢
      have qaQ := n0_; have qaI := n1_; have qa6 := n2_; have HB := n3_; clear n0_ n1_ n2_ n3_; have n0_ := qaa.mk (qae qaQ.out); have n1_ := qaa.mk (qae qaI.out); have n2_ := qaa.mk (qae qa6.out); have n3_ := qaa.mk (qah HB.out); clear qaQ qaI qa6 HB; have qaQ := n0_; have qaI := n1_; have qa6 := n2_; have HB := n3_; clear n0_ n1_ n2_ n3_; refine qfM (n := 25) (S := fun w' => w'.cell? ⟨qa7, 0, none⟩ = some (.int .i64 t715) ∧ w'.cell? ⟨qa7, 1, none⟩ = some (.int .i64 t716) ∧ w'.cell? ⟨qbJ, 0, none⟩ = some (.int .i64 t681) ∧ w'.cell? ⟨qbJ, 1, none⟩ = some (.int .i64 t682)) (ds := []) (qas 25 0) (by kernel_rfl) rfl rfl ⟨(qai qa6.out 0).trans rfl, (qai qa6.out 1).trans rfl, (qai qaI.out 0).trans rfl, (qai qaI.out 1).trans rfl⟩ (fun hHeld => ?_); refine qel qak.tab21 qak.bits21 (fun HT_ HW_ => ?_)
      generalize w89.drew = w90 at qaQ qaI qa6 HB hHeld ⊢
      refine qax 0 (some 204) (qas 25 1) rfl rfl HT_.out (by kernel_rfl) (fun _ _ _ h => h) ⟨.inl ⟨by rfl, fun w' => by go_simp; with_reducible rfl⟩, by simp only [qaq, qam, qap, qao, qan, qaB, qaC]; rfl, ?_⟩; refine qax 1 (some 205) (qas 25 3) rfl rfl HT_.out (by kernel_rfl) (fun _ _ _ h => h) ⟨.inl ⟨by rfl, fun w' => by go_simp; with_reducible rfl⟩, by simp only [qaq, qam, qap, qao, qan, qaB, qaC]; rfl, ?_⟩; refine qax 2 (some 206) (qas 25 7) rfl rfl HT_.out (by kernel_rfl) (fun _ _ _ h => h) ⟨.inl ⟨by rfl, fun w' => by go_simp; with_reducible rfl⟩, by simp only [qaq, qam, qap, qao, qan, qaB, qaC]; rfl, ?_⟩; refine qax 4 (some 208) (qas 25 23) rfl rfl HT_.out (by kernel_rfl) (fun _ _ _ h => h) ⟨.inl ⟨by rfl, fun w' => by go_simp; with_reducible rfl⟩, by simp only [qaq, qam, qap, qao, qan, qaB, qaC]; rfl, ?_⟩; refine qax 5 (some 209) (qas 25 55) rfl rfl HT_.out (by kernel_rfl) (fun _ _ _ h => h) ⟨.inl ⟨by rfl, fun w' => by go_simp; with_reducible rfl⟩, by simp only [qaq, qam, qap, qao, qan, qaB, qaC]; rfl, ?_⟩; refine qcD 3 (some 207) (qas 25 63) rfl rfl (qcE HT_.out HW_.out (by kernel_rfl)) (fun _ _ _ h => h) hHeld ⟨.inl ⟨by rfl, by rintro w' ⟨s0, s1, s2, s3⟩; go_simp; with_reducible rfl⟩, by simp only [qaq, qam, qap, qao, qan, qaB, qaC]; rfl, ?_⟩; refine one_ (i := 6) (N := some 210) (qas 25 127) rfl rfl (qdd HT_.out (by kernel_rfl)) (by decide) (fun K hK => ?_); refine qd4 Try.func43 (by kernel_rfl) rfl #[.int .i64 qbH, .int .i64 qbH] (by rfl) rfl rfl (by (try simp only [List.map_toArray, List.map_cons, List.map_nil]); first | done | rfl | (simp only [List.length_drop, List.length_take]; rfl)) ?_
      with_reducible refine (qaK.calls qbH qbH t719 t720 _ A66.out).mono ?_
      rintro e w91 ⟨rfl, hb⟩; refine ⟨_, rfl, ?_⟩; have n0_ := qaa.mk (qar (g := qbP) (o := .cells #[.int .i64 a1_0, .int .i64 a1_1] 23 (0, 0)) (by (with_reducible repeat (first | refine qac ?_ _ | refine qae ?_ | refine qab ?_ _)); exact qaQ.out) hb); have n1_ := qaa.mk (qar (g := qbJ) (o := .cells #[.int .i64 t681, .int .i64 t682] 25 (0, 0)) (by (with_reducible repeat (first | refine qac ?_ _ | refine qae ?_ | refine qab ?_ _)); exact qaI.out) hb); have n2_ := qaa.mk (qar (g := qa7) (o := .cells #[.int .i64 t715, .int .i64 t716] 25 (0, 0)) (by (with_reducible repeat (first | refine qac ?_ _ | refine qae ?_ | refine qab ?_ _)); exact qa6.out) hb); have n3_ := qaa.mk (qaA (by repeat (first | (with_reducible first | exact HB.out | apply qag | apply qad | apply qah | refine qaf ?_ qbM.out | refine qaf ?_ qbY.out | refine qaf ?_ qd9.out) | exact HB.out)) hb); clear qaQ qaI qa6 HB; have qaQ := n0_; have qaI := n1_; have qa6 := n2_; have HB := n3_; clear n0_ n1_ n2_ n3_
      (try clear hb)
      (try clear hb2)
      (try clear hk)
      (try clear hi)
      refine hK.out _ _ ⟨(qai qa6.out 0).trans rfl, (qai qa6.out 1).trans rfl, (qai qaI.out 0).trans rfl, (qai qaI.out 1).trans rfl⟩ (fun hHeld => ?_); clear hK K; refine qcX (a' := ?_) ?_ ?_; rotate_left
      ·
       show Act.put _ (some 210) _ = _
       simp only [qaq, qam, qap, qao, qan, qaB, qaC]; rfl
      refine qax 7 (some 211) (qas 25 255) rfl rfl HT_.out (by kernel_rfl) (fun _ _ _ h => h) ⟨.inl ⟨by rfl, fun w' => by go_simp; with_reducible rfl⟩, by simp only [qaq, qam, qap, qao, qan, qaB, qaC]; rfl, ?_⟩; refine qax 8 (some 212) (qas 25 511) rfl rfl HT_.out (by kernel_rfl) (fun _ _ _ h => h) ⟨.inl ⟨by rfl, fun w' => by go_simp; with_reducible rfl⟩, by simp only [qaq, qam, qap, qao, qan, qaB, qaC]; rfl, ?_⟩; refine qax 9 (some 213) (qas 25 1023) rfl rfl HT_.out (by kernel_rfl) (fun _ _ _ h => h) ⟨.inl ⟨by rfl, fun w' => by go_simp; with_reducible rfl⟩, by simp only [qaq, qam, qap, qao, qan, qaB, qaC]; rfl, ?_⟩; refine qax 11 (some 215) (qas 25 3071) rfl rfl HT_.out (by kernel_rfl) (fun _ _ _ h => h) ⟨.inl ⟨by rfl, fun w' => by go_simp; with_reducible rfl⟩, by simp only [qaq, qam, qap, qao, qan, qaB, qaC]; rfl, ?_⟩; refine qcD 10 (some 214) (qas 25 4095) rfl rfl (qcE HT_.out HW_.out (by kernel_rfl)) (fun _ _ _ h => h) hHeld ⟨.inl ⟨by rfl, by rintro w' ⟨s0, s1, s2, s3⟩; go_simp; with_reducible rfl⟩, by simp only [qaq, qam, qap, qao, qan, qaB, qaC]; rfl, ?_⟩; refine one_ (i := 12) (N := some 216) (qas 25 8191) rfl rfl (qdd HT_.out (by kernel_rfl)) (by decide) (fun K hK => ?_); refine qd4 Try.func44 (by kernel_rfl) rfl #[.agg #[.int .i64 t681, .int .i64 t682], .int .i64 qd5] (by rfl) rfl rfl (by (try simp only [List.map_toArray, List.map_cons, List.map_nil]); first | done | rfl | (simp only [List.length_drop, List.length_take]; rfl)) ?_
      with_reducible refine (qc0.calls t681 t682 qd5 true _ A68.out).mono ?_
      rintro e w92 ⟨rfl, hb⟩; refine ⟨_, rfl, ?_⟩; have n0_ := qaa.mk (qar (g := qbP) (o := .cells #[.int .i64 a1_0, .int .i64 a1_1] 23 (0, 0)) (by (with_reducible repeat (first | refine qac ?_ _ | refine qae ?_ | refine qab ?_ _)); exact qaQ.out) hb); have n1_ := qaa.mk (qar (g := qbJ) (o := .cells #[.int .i64 t681, .int .i64 t682] 25 (0, 0)) (by (with_reducible repeat (first | refine qac ?_ _ | refine qae ?_ | refine qab ?_ _)); exact qaI.out) hb); have n2_ := qaa.mk (qar (g := qa7) (o := .cells #[.int .i64 t715, .int .i64 t716] 25 (0, 0)) (by (with_reducible repeat (first | refine qac ?_ _ | refine qae ?_ | refine qab ?_ _)); exact qa6.out) hb); have n3_ := qaa.mk (qaA (by repeat (first | (with_reducible first | exact HB.out | apply qag | apply qad | apply qah | refine qaf ?_ qbM.out | refine qaf ?_ qbY.out | refine qaf ?_ qd9.out) | exact HB.out)) hb); clear qaQ qaI qa6 HB; have qaQ := n0_; have qaI := n1_; have qa6 := n2_; have HB := n3_; clear n0_ n1_ n2_ n3_
      (try clear hb)
      (try clear hb2)
      (try clear hk)
      (try clear hi)
      refine hK.out _ _ ⟨(qai qa6.out 0).trans rfl, (qai qa6.out 1).trans rfl, (qai qaI.out 0).trans rfl, (qai qaI.out 1).trans rfl⟩ (fun hHeld => ?_); clear hK K; refine qcX (a' := ?_) ?_ ?_; rotate_left
      ·
       show Act.put _ (some 216) _ = _
       simp only [qaq, qam, qap, qao, qan, qaB, qaC]; rfl
      refine qax 13 (some 217) (qas 25 16383) rfl rfl HT_.out (by kernel_rfl) (fun _ _ _ h => h) ⟨.inl ⟨by rfl, fun w' => by go_simp; with_reducible rfl⟩, by simp only [qaq, qam, qap, qao, qan, qaB, qaC]; rfl, ?_⟩; refine qax 14 (some 218) (qas 25 32767) rfl rfl HT_.out (by kernel_rfl) (fun _ _ _ h => h) ⟨.inl ⟨by rfl, fun w' => by go_simp; with_reducible rfl⟩, by simp only [qaq, qam, qap, qao, qan, qaB, qaC]; rfl, ?_⟩; refine qax 16 (some 220) (qas 25 98303) rfl rfl HT_.out (by kernel_rfl) (fun _ _ _ h => h) ⟨.inl ⟨by rfl, fun w' => by go_simp; with_reducible rfl⟩, by simp only [qaq, qam, qap, qao, qan, qaB, qaC]; rfl, ?_⟩; refine qax 17 (some 221) (qas 25 229375) rfl rfl HT_.out (by kernel_rfl) (fun _ _ _ h => h) ⟨.inl ⟨by rfl, fun w' => by go_simp; with_reducible rfl⟩, by simp only [qaq, qam, qap, qao, qan, qaB, qaC]; rfl, ?_⟩; refine qcD 15 (some 219) (qas 25 262143) rfl rfl (qcE HT_.out HW_.out (by kernel_rfl)) (fun _ _ _ h => h) hHeld ⟨.inl ⟨by rfl, by rintro w' ⟨s0, s1, s2, s3⟩; go_simp; with_reducible rfl⟩, by simp only [qaq, qam, qap, qao, qan, qaB, qaC]; rfl, ?_⟩; refine one_ (i := 18) (N := some 222) (qas 25 524287) rfl rfl (qdd HT_.out (by kernel_rfl)) (by decide) (fun K hK => ?_); refine qd4 Try.func43 (by kernel_rfl) rfl #[.int .i64 qcN, .int .i64 qbV] (by rfl) rfl rfl (by (try simp only [List.map_toArray, List.map_cons, List.map_nil]); first | done | rfl | (simp only [List.length_drop, List.length_take]; rfl)) ?_
      with_reducible refine (qaK.calls qcN qbV t722 t723 _ A70.out).mono ?_
      rintro e w93 ⟨rfl, hb⟩; refine ⟨_, rfl, ?_⟩; have n0_ := qaa.mk (qar (g := qbP) (o := .cells #[.int .i64 a1_0, .int .i64 a1_1] 23 (0, 0)) (by (with_reducible repeat (first | refine qac ?_ _ | refine qae ?_ | refine qab ?_ _)); exact qaQ.out) hb); have n1_ := qaa.mk (qar (g := qbJ) (o := .cells #[.int .i64 t681, .int .i64 t682] 25 (0, 0)) (by (with_reducible repeat (first | refine qac ?_ _ | refine qae ?_ | refine qab ?_ _)); exact qaI.out) hb); have n2_ := qaa.mk (qar (g := qa7) (o := .cells #[.int .i64 t715, .int .i64 t716] 25 (0, 0)) (by (with_reducible repeat (first | refine qac ?_ _ | refine qae ?_ | refine qab ?_ _)); exact qa6.out) hb); have n3_ := qaa.mk (qaA (by repeat (first | (with_reducible first | exact HB.out | apply qag | apply qad | apply qah | refine qaf ?_ qbM.out | refine qaf ?_ qbY.out | refine qaf ?_ qd9.out) | exact HB.out)) hb); clear qaQ qaI qa6 HB; have qaQ := n0_; have qaI := n1_; have qa6 := n2_; have HB := n3_; clear n0_ n1_ n2_ n3_
      (try clear hb)
      (try clear hb2)
      (try clear hk)
      (try clear hi)
      refine hK.out _ _ ⟨(qai qa6.out 0).trans rfl, (qai qa6.out 1).trans rfl, (qai qaI.out 0).trans rfl, (qai qaI.out 1).trans rfl⟩ (fun hHeld => ?_); clear hK K; refine qcX (a' := ?_) ?_ ?_; rotate_left
      ·
       show Act.put _ (some 222) _ = _
       simp only [qaq, qam, qap, qao, qan, qaB, qaC]; rfl
      refine qax 19 (some 223) (qas 25 1048575) rfl rfl HT_.out (by kernel_rfl) (fun _ _ _ h => h) ⟨.inl ⟨by rfl, fun w' => by go_simp; with_reducible rfl⟩, by simp only [qaq, qam, qap, qao, qan, qaB, qaC]; rfl, ?_⟩; refine qax 20 (some 224) (qas 25 2097151) rfl rfl HT_.out (by kernel_rfl) (fun _ _ _ h => h) ⟨.inl ⟨by rfl, fun w' => by go_simp; with_reducible rfl⟩, by simp only [qaq, qam, qap, qao, qan, qaB, qaC]; rfl, ?_⟩; refine qax 21 (some 225) (qas 25 4194303) rfl rfl HT_.out (by kernel_rfl) (fun _ _ _ h => h) ⟨.inl ⟨by rfl, fun w' => by go_simp; with_reducible rfl⟩, by simp only [qaq, qam, qap, qao, qan, qaB, qaC]; rfl, ?_⟩; refine qax 22 (some 226) (qas 25 8388607) rfl rfl HT_.out (by kernel_rfl) (fun _ _ _ h => h) ⟨.inr ⟨by rfl, rfl⟩, by simp only [qaq, qam, qap, qao, qan, qaB, qaC]; rfl, ?_⟩; refine qax 23 (some 227) (qas 25 16777215) rfl rfl HT_.out (by kernel_rfl) (fun _ _ _ h => h) ⟨.inl ⟨by rfl, fun w' => by go_simp; with_reducible rfl⟩, by simp only [qaq, qam, qap, qao, qan, qaB, qaC]; rfl, ?_⟩; refine qax 24 (some 6) (qas 25 33554431) rfl rfl HT_.out (by kernel_rfl) (fun _ _ _ h => h) ⟨.inl ⟨by rfl, fun w' => by go_simp; with_reducible rfl⟩, by simp only [qaq, qam, qap, qao, qan, qaB, qaC]; rfl, ?_⟩; refine qgo (qe9 HT_.out (by kernel_rfl)) ?_
      try go_wp2
      go_ret
      exact ⟨by first | rfl | (simp [qaO, qaP] <;> rfl) | (simp [*, qaO, qaP] <;> rfl), by repeat (first | (with_reducible first | exact HB.out | apply qag | apply qad | apply qah | refine qaf ?_ qbM.out | refine qaf ?_ qbY.out | refine qaf ?_ qd9.out) | exact HB.out)⟩
     as_aux_lemma =>
     replace c69 := Bool.eq_false_iff.mpr c69; subst c69
     have H1 : (some false) = some r := by rw [if_neg (show ¬ (false = true) by decide)] at H; exact H
     clear H; have H := H1; clear H1; obtain rfl := Option.some.inj H
     try go_wp2_with (first | ((with_reducible refine qaT (f := 19) rfl ?_); refine qbs (some 201) rfl rfl Try.func19 (by kernel_rfl) rfl #[.slice A0 l0.length c0, .int .i64 0, .int .i64 20] rfl (by (try simp only [List.map_toArray, List.map_cons, List.map_nil]); first | done | rfl | (simp only [List.length_drop, List.length_take]; rfl)) ?_; (with_reducible refine (qaL.calls k2 _ _ l0 0 20 t715 t716 t717 _ ?side1 ?side2 A64.out).mono ?_); (case side1 => repeat (first | exact (Kd.C_below HR0.out HB.out) | (with_reducible refine Kd.C_alloc ?_ _) | (with_reducible refine Kd.C_drewN ?_ _) | (with_reducible refine Kd.C_drew ?_))); (case side2 => exact HC0.out); rintro e w94 ⟨rfl, hb⟩; refine ⟨_, rfl, ?_⟩; have n0_ := qaa.mk (qar (g := qbP) (o := .cells #[.int .i64 a1_0, .int .i64 a1_1] 23 (0, 0)) (by (with_reducible repeat (first | refine qac ?_ _ | refine qae ?_ | refine qab ?_ _)); exact qaQ.out) hb); have n1_ := qaa.mk (qar (g := qbJ) (o := .cells #[.int .i64 t681, .int .i64 t682] 25 (0, 0)) (by (with_reducible repeat (first | refine qac ?_ _ | refine qae ?_ | refine qab ?_ _)); exact qaI.out) hb); have n2_ := qaa.mk (qaA (by repeat (first | (with_reducible first | exact HB.out | apply qag | apply qad | apply qah | refine qaf ?_ qbM.out | refine qaf ?_ qbY.out) | exact HB.out)) hb); clear qaQ; clear qaI; clear HB; have qaQ := n0_; have qaI := n1_; have HB := n2_; clear n0_ n1_ n2_; (try clear hb); (try clear hb2); (try clear hk); (try clear hi)) | ((with_reducible refine qa1 (N := 17) rfl ?_); (try (refine qdF (by rfl) ?_; dsimp only)); refine qbq ?hg (N := 17) ?hd (cs := #[.int .i64 0, .int .i64 0]) (t := 25) ?hr ?_; (case hd => rfl); (case hg => rfl); (case hr => first | (go_simp; done) | (go_simp; rfl)); intro qa7 hg w95 hbox hb; have n0_ := qaa.mk (qar (g := qbP) (o := .cells #[.int .i64 a1_0, .int .i64 a1_1] 23 (0, 0)) (by (with_reducible repeat (first | refine qac ?_ _ | refine qae ?_ | refine qab ?_ _)); exact qaQ.out) hb); have n1_ := qaa.mk (qar (g := qbJ) (o := .cells #[.int .i64 t681, .int .i64 t682] 25 (0, 0)) (by (with_reducible repeat (first | refine qac ?_ _ | refine qae ?_ | refine qab ?_ _)); exact qaI.out) hb); have n2_ := qaa.mk (qaA (by repeat (first | (with_reducible first | exact HB.out | apply qag | apply qad | apply qah | refine qaf ?_ qbM.out | refine qaf ?_ qbY.out) | exact HB.out)) hb); have n3_ := qaa.mk (hbox); have n4_ := qaa.mk ((by rw [hg]; exact (qav (by repeat (first | (with_reducible first | exact HB.out | apply qag | apply qad | apply qah | refine qaf ?_ qbM.out | refine qaf ?_ qbY.out) | exact HB.out))) : w.heap.size ≤ qa7)); have n5_ := qaa.mk ((by rw [hg]; exact (qav (by repeat (first | (with_reducible first | exact HB.out | apply qag | apply qad | apply qah | refine qaf ?_ qbM.out | refine qaf ?_ qbY.out) | exact HB.out))) : w.heap.size ≤ qa7)); have n6_ := qaa.mk ((by rw [hg]; exact Nat.ne_of_lt (qaN (g := qbP) (o := .cells #[.int .i64 a1_0, .int .i64 a1_1] 23 (0, 0)) (by (with_reducible repeat (first | refine qac ?_ _ | refine qae ?_ | refine qab ?_ _)); exact qaQ.out)) : qbP ≠ qa7)); have n7_ := qaa.mk ((by rw [hg]; exact Nat.ne_of_gt (qaN (g := qbP) (o := .cells #[.int .i64 a1_0, .int .i64 a1_1] 23 (0, 0)) (by (with_reducible repeat (first | refine qac ?_ _ | refine qae ?_ | refine qab ?_ _)); exact qaQ.out)) : qa7 ≠ qbP)); have n8_ := qaa.mk ((by rw [hg]; exact Nat.ne_of_lt (qaN (g := qbJ) (o := .cells #[.int .i64 t681, .int .i64 t682] 25 (0, 0)) (by (with_reducible repeat (first | refine qac ?_ _ | refine qae ?_ | refine qab ?_ _)); exact qaI.out)) : qbJ ≠ qa7)); have n9_ := qaa.mk ((by rw [hg]; exact Nat.ne_of_gt (qaN (g := qbJ) (o := .cells #[.int .i64 t681, .int .i64 t682] 25 (0, 0)) (by (with_reducible repeat (first | refine qac ?_ _ | refine qae ?_ | refine qab ?_ _)); exact qaI.out)) : qa7 ≠ qbJ)); clear qaQ; clear qaI; clear HB; have qaQ := n0_; have qaI := n1_; have HB := n2_; have qa6 := n3_; have qnu := n4_; have qd9 := n5_; have qdm := n6_; have qfs := n7_; have qdn := n8_; have qft := n9_; clear n0_ n1_ n2_ n3_ n4_ n5_ n6_ n7_ n8_ n9_; clear hb hbox hg; have qDP := qfs.out; have qEt := qdm.out; have qDQ := qft.out; have qEu := qdn.out; have qsu : w95.cell? ⟨qa7, 0, none⟩ = some (.int .i64 0) := (qai qa6.out 0).trans rfl; have qyh : w95.cell? ⟨qa7, 1, none⟩ = some (.int .i64 0) := (qai qa6.out 1).trans rfl; have qs6 := qaj qa6.out 0; have qAh := qaj qa6.out 1))
     have n0_ : qaa (((w95.setCell ⟨qa7, 0, none⟩ (.int .i64 t715)).setCell ⟨qa7, 1, none⟩ (.int .i64 t716)).heap[qbP]? = some (.cells #[.int .i64 a1_0, .int .i64 a1_1] 23 (0, 0))) := ⟨by (with_reducible repeat (first | refine qac ?_ _ | refine qae ?_ | refine qab ?_ _)); refine qau ?_ qdm.out _; (with_reducible repeat (first | refine qac ?_ _ | refine qae ?_ | refine qab ?_ _)); refine qau ?_ qdm.out _; (with_reducible repeat (first | refine qac ?_ _ | refine qae ?_ | refine qab ?_ _)); exact qaQ.out⟩; have n1_ : qaa (((w95.setCell ⟨qa7, 0, none⟩ (.int .i64 t715)).setCell ⟨qa7, 1, none⟩ (.int .i64 t716)).heap[qbJ]? = some (.cells #[.int .i64 t681, .int .i64 t682] 25 (0, 0))) := ⟨by (with_reducible repeat (first | refine qac ?_ _ | refine qae ?_ | refine qab ?_ _)); refine qau ?_ qdn.out _; (with_reducible repeat (first | refine qac ?_ _ | refine qae ?_ | refine qab ?_ _)); refine qau ?_ qdn.out _; (with_reducible repeat (first | refine qac ?_ _ | refine qae ?_ | refine qab ?_ _)); exact qaI.out⟩; have n2_ : qaa (((w95.setCell ⟨qa7, 0, none⟩ (.int .i64 t715)).setCell ⟨qa7, 1, none⟩ (.int .i64 t716)).heap[qa7]? = some (.cells #[.int .i64 t715, .int .i64 t716] 25 (0, 0))) := ⟨by (with_reducible repeat (first | refine qac ?_ _ | refine qae ?_ | refine qab ?_ _)); refine qaH (cs := #[.int .i64 t715, .int .i64 0]) ?_ 1 _ rfl; (with_reducible repeat (first | refine qac ?_ _ | refine qae ?_ | refine qab ?_ _)); refine qaH (cs := #[.int .i64 0, .int .i64 0]) ?_ 0 _ rfl; (with_reducible repeat (first | refine qac ?_ _ | refine qae ?_ | refine qab ?_ _)); exact qa6.out⟩; have n3_ : qaa (Below w.heap.size w ((w95.setCell ⟨qa7, 0, none⟩ (.int .i64 t715)).setCell ⟨qa7, 1, none⟩ (.int .i64 t716))) := ⟨by repeat (first | (with_reducible first | exact HB.out | apply qag | apply qad | apply qah | refine qaf ?_ qbM.out | refine qaf ?_ qbY.out | refine qaf ?_ qd9.out) | exact HB.out)⟩
     (try clear qaQ)
     (try clear qaI)
     (try clear qa6)
     (try clear HB)
     generalize ((w95.setCell ⟨qa7, 0, none⟩ (.int .i64 t715)).setCell ⟨qa7, 1, none⟩ (.int .i64 t716)) = w99 at n0_ n1_ n2_ n3_ ⊢
     have qaQ := n0_; have qaI := n1_; have qa6 := n2_; have HB := n3_; clear n0_ n1_ n2_ n3_; have n0_ := qaa.mk (qae qaQ.out); have n1_ := qaa.mk (qae qaI.out); have n2_ := qaa.mk (qae qa6.out); have n3_ := qaa.mk (qah HB.out); clear qaQ qaI qa6 HB; have qaQ := n0_; have qaI := n1_; have qa6 := n2_; have HB := n3_; clear n0_ n1_ n2_ n3_; refine qfM (n := 25) (S := fun w' => w'.cell? ⟨qa7, 0, none⟩ = some (.int .i64 t715) ∧ w'.cell? ⟨qa7, 1, none⟩ = some (.int .i64 t716) ∧ w'.cell? ⟨qbJ, 0, none⟩ = some (.int .i64 t681) ∧ w'.cell? ⟨qbJ, 1, none⟩ = some (.int .i64 t682)) (ds := []) (qas 25 0) (by kernel_rfl) rfl rfl ⟨(qai qa6.out 0).trans rfl, (qai qa6.out 1).trans rfl, (qai qaI.out 0).trans rfl, (qai qaI.out 1).trans rfl⟩ (fun hHeld => ?_); refine qel qak.tab21 qak.bits21 (fun HT_ HW_ => ?_)
     generalize w99.drew = w100 at qaQ qaI qa6 HB hHeld ⊢
     refine qax 0 (some 204) (qas 25 1) rfl rfl HT_.out (by kernel_rfl) (fun _ _ _ h => h) ⟨.inl ⟨by rfl, fun w' => by go_simp; with_reducible rfl⟩, by simp only [qaq, qam, qap, qao, qan, qaB, qaC]; rfl, ?_⟩; refine qax 1 (some 205) (qas 25 3) rfl rfl HT_.out (by kernel_rfl) (fun _ _ _ h => h) ⟨.inl ⟨by rfl, fun w' => by go_simp; with_reducible rfl⟩, by simp only [qaq, qam, qap, qao, qan, qaB, qaC]; rfl, ?_⟩; refine qax 2 (some 206) (qas 25 7) rfl rfl HT_.out (by kernel_rfl) (fun _ _ _ h => h) ⟨.inl ⟨by rfl, fun w' => by go_simp; with_reducible rfl⟩, by simp only [qaq, qam, qap, qao, qan, qaB, qaC]; rfl, ?_⟩; refine qax 4 (some 208) (qas 25 23) rfl rfl HT_.out (by kernel_rfl) (fun _ _ _ h => h) ⟨.inl ⟨by rfl, fun w' => by go_simp; with_reducible rfl⟩, by simp only [qaq, qam, qap, qao, qan, qaB, qaC]; rfl, ?_⟩; refine qax 5 (some 209) (qas 25 55) rfl rfl HT_.out (by kernel_rfl) (fun _ _ _ h => h) ⟨.inl ⟨by rfl, fun w' => by go_simp; with_reducible rfl⟩, by simp only [qaq, qam, qap, qao, qan, qaB, qaC]; rfl, ?_⟩; refine qcD 3 (some 207) (qas 25 63) rfl rfl (qcE HT_.out HW_.out (by kernel_rfl)) (fun _ _ _ h => h) hHeld ⟨.inl ⟨by rfl, by rintro w' ⟨s0, s1, s2, s3⟩; go_simp; with_reducible rfl⟩, by simp only [qaq, qam, qap, qao, qan, qaB, qaC]; rfl, ?_⟩; refine one_ (i := 6) (N := some 210) (qas 25 127) rfl rfl (qdd HT_.out (by kernel_rfl)) (by decide) (fun K hK => ?_); refine qd4 Try.func43 (by kernel_rfl) rfl #[.int .i64 qbH, .int .i64 qbH] (by rfl) rfl rfl (by (try simp only [List.map_toArray, List.map_cons, List.map_nil]); first | done | rfl | (simp only [List.length_drop, List.length_take]; rfl)) ?_
     with_reducible refine (qaK.calls qbH qbH t719 t720 _ A66.out).mono ?_
     rintro e w101 ⟨rfl, hb⟩; refine ⟨_, rfl, ?_⟩; have n0_ := qaa.mk (qar (g := qbP) (o := .cells #[.int .i64 a1_0, .int .i64 a1_1] 23 (0, 0)) (by (with_reducible repeat (first | refine qac ?_ _ | refine qae ?_ | refine qab ?_ _)); exact qaQ.out) hb); have n1_ := qaa.mk (qar (g := qbJ) (o := .cells #[.int .i64 t681, .int .i64 t682] 25 (0, 0)) (by (with_reducible repeat (first | refine qac ?_ _ | refine qae ?_ | refine qab ?_ _)); exact qaI.out) hb); have n2_ := qaa.mk (qar (g := qa7) (o := .cells #[.int .i64 t715, .int .i64 t716] 25 (0, 0)) (by (with_reducible repeat (first | refine qac ?_ _ | refine qae ?_ | refine qab ?_ _)); exact qa6.out) hb); have n3_ := qaa.mk (qaA (by repeat (first | (with_reducible first | exact HB.out | apply qag | apply qad | apply qah | refine qaf ?_ qbM.out | refine qaf ?_ qbY.out | refine qaf ?_ qd9.out) | exact HB.out)) hb); clear qaQ qaI qa6 HB; have qaQ := n0_; have qaI := n1_; have qa6 := n2_; have HB := n3_; clear n0_ n1_ n2_ n3_
     (try clear hb)
     (try clear hb2)
     (try clear hk)
     (try clear hi)
     refine hK.out _ _ ⟨(qai qa6.out 0).trans rfl, (qai qa6.out 1).trans rfl, (qai qaI.out 0).trans rfl, (qai qaI.out 1).trans rfl⟩ (fun hHeld => ?_); clear hK K; refine qcX (a' := ?_) ?_ ?_; rotate_left
     ·
      show Act.put _ (some 210) _ = _
      simp only [qaq, qam, qap, qao, qan, qaB, qaC]; rfl
     refine qax 7 (some 211) (qas 25 255) rfl rfl HT_.out (by kernel_rfl) (fun _ _ _ h => h) ⟨.inl ⟨by rfl, fun w' => by go_simp; with_reducible rfl⟩, by simp only [qaq, qam, qap, qao, qan, qaB, qaC]; rfl, ?_⟩; refine qax 8 (some 212) (qas 25 511) rfl rfl HT_.out (by kernel_rfl) (fun _ _ _ h => h) ⟨.inl ⟨by rfl, fun w' => by go_simp; with_reducible rfl⟩, by simp only [qaq, qam, qap, qao, qan, qaB, qaC]; rfl, ?_⟩; refine qax 9 (some 213) (qas 25 1023) rfl rfl HT_.out (by kernel_rfl) (fun _ _ _ h => h) ⟨.inl ⟨by rfl, fun w' => by go_simp; with_reducible rfl⟩, by simp only [qaq, qam, qap, qao, qan, qaB, qaC]; rfl, ?_⟩; refine qax 11 (some 215) (qas 25 3071) rfl rfl HT_.out (by kernel_rfl) (fun _ _ _ h => h) ⟨.inl ⟨by rfl, fun w' => by go_simp; with_reducible rfl⟩, by simp only [qaq, qam, qap, qao, qan, qaB, qaC]; rfl, ?_⟩; refine qcD 10 (some 214) (qas 25 4095) rfl rfl (qcE HT_.out HW_.out (by kernel_rfl)) (fun _ _ _ h => h) hHeld ⟨.inl ⟨by rfl, by rintro w' ⟨s0, s1, s2, s3⟩; go_simp; with_reducible rfl⟩, by simp only [qaq, qam, qap, qao, qan, qaB, qaC]; rfl, ?_⟩; refine one_ (i := 12) (N := some 216) (qas 25 8191) rfl rfl (qdd HT_.out (by kernel_rfl)) (by decide) (fun K hK => ?_); refine qd4 Try.func44 (by kernel_rfl) rfl #[.agg #[.int .i64 t681, .int .i64 t682], .int .i64 qd5] (by rfl) rfl rfl (by (try simp only [List.map_toArray, List.map_cons, List.map_nil]); first | done | rfl | (simp only [List.length_drop, List.length_take]; rfl)) ?_
     with_reducible refine (qc0.calls t681 t682 qd5 false _ A68.out).mono ?_
     rintro e w102 ⟨rfl, hb⟩; refine ⟨_, rfl, ?_⟩; have n0_ := qaa.mk (qar (g := qbP) (o := .cells #[.int .i64 a1_0, .int .i64 a1_1] 23 (0, 0)) (by (with_reducible repeat (first | refine qac ?_ _ | refine qae ?_ | refine qab ?_ _)); exact qaQ.out) hb); have n1_ := qaa.mk (qar (g := qbJ) (o := .cells #[.int .i64 t681, .int .i64 t682] 25 (0, 0)) (by (with_reducible repeat (first | refine qac ?_ _ | refine qae ?_ | refine qab ?_ _)); exact qaI.out) hb); have n2_ := qaa.mk (qar (g := qa7) (o := .cells #[.int .i64 t715, .int .i64 t716] 25 (0, 0)) (by (with_reducible repeat (first | refine qac ?_ _ | refine qae ?_ | refine qab ?_ _)); exact qa6.out) hb); have n3_ := qaa.mk (qaA (by repeat (first | (with_reducible first | exact HB.out | apply qag | apply qad | apply qah | refine qaf ?_ qbM.out | refine qaf ?_ qbY.out | refine qaf ?_ qd9.out) | exact HB.out)) hb); clear qaQ qaI qa6 HB; have qaQ := n0_; have qaI := n1_; have qa6 := n2_; have HB := n3_; clear n0_ n1_ n2_ n3_
     (try clear hb)
     (try clear hb2)
     (try clear hk)
     (try clear hi)
     refine hK.out _ _ ⟨(qai qa6.out 0).trans rfl, (qai qa6.out 1).trans rfl, (qai qaI.out 0).trans rfl, (qai qaI.out 1).trans rfl⟩ (fun hHeld => ?_); clear hK K; refine qcX (a' := ?_) ?_ ?_; rotate_left
     ·
      show Act.put _ (some 216) _ = _
      simp only [qaq, qam, qap, qao, qan, qaB, qaC]; rfl
     refine qax 13 (some 217) (qas 25 16383) rfl rfl HT_.out (by kernel_rfl) (fun _ _ _ h => h) ⟨.inl ⟨by rfl, fun w' => by go_simp; with_reducible rfl⟩, by simp only [qaq, qam, qap, qao, qan, qaB, qaC]; rfl, ?_⟩; refine qax 14 (some 218) (qas 25 32767) rfl rfl HT_.out (by kernel_rfl) (fun _ _ _ h => h) ⟨.inl ⟨by rfl, fun w' => by go_simp; with_reducible rfl⟩, by simp only [qaq, qam, qap, qao, qan, qaB, qaC]; rfl, ?_⟩; refine qax 15 (some 219) (qas 25 65535) rfl rfl HT_.out (by kernel_rfl) (fun _ _ _ h => h) ⟨.inr ⟨by rfl, rfl⟩, by simp only [qaq, qam, qap, qao, qan, qaB, qaC]; rfl, ?_⟩; refine qax 16 (some 220) (qas 25 131071) rfl rfl HT_.out (by kernel_rfl) (fun _ _ _ h => h) ⟨.inr ⟨by rfl, rfl⟩, by simp only [qaq, qam, qap, qao, qan, qaB, qaC]; rfl, ?_⟩; refine qax 17 (some 221) (qas 25 262143) rfl rfl HT_.out (by kernel_rfl) (fun _ _ _ h => h) ⟨.inr ⟨by rfl, rfl⟩, by simp only [qaq, qam, qap, qao, qan, qaB, qaC]; rfl, ?_⟩; refine qax 18 (some 222) (qas 25 524287) rfl rfl HT_.out (by kernel_rfl) (fun _ _ _ h => h) ⟨.inr ⟨by rfl, rfl⟩, by simp only [qaq, qam, qap, qao, qan, qaB, qaC]; rfl, ?_⟩; refine qax 19 (some 223) (qas 25 1048575) rfl rfl HT_.out (by kernel_rfl) (fun _ _ _ h => h) ⟨.inr ⟨by rfl, rfl⟩, by simp only [qaq, qam, qap, qao, qan, qaB, qaC]; rfl, ?_⟩; refine qax 20 (some 224) (qas 25 2097151) rfl rfl HT_.out (by kernel_rfl) (fun _ _ _ h => h) ⟨.inl ⟨by rfl, fun w' => by go_simp; with_reducible rfl⟩, by simp only [qaq, qam, qap, qao, qan, qaB, qaC]; rfl, ?_⟩; refine qax 21 (some 225) (qas 25 4194303) rfl rfl HT_.out (by kernel_rfl) (fun _ _ _ h => h) ⟨.inl ⟨by rfl, fun w' => by go_simp; with_reducible rfl⟩, by simp only [qaq, qam, qap, qao, qan, qaB, qaC]; rfl, ?_⟩; refine qax 22 (some 226) (qas 25 8388607) rfl rfl HT_.out (by kernel_rfl) (fun _ _ _ h => h) ⟨.inr ⟨by rfl, rfl⟩, by simp only [qaq, qam, qap, qao, qan, qaB, qaC]; rfl, ?_⟩; refine qax 23 (some 227) (qas 25 16777215) rfl rfl HT_.out (by kernel_rfl) (fun _ _ _ h => h) ⟨.inl ⟨by rfl, fun w' => by go_simp; with_reducible rfl⟩, by simp only [qaq, qam, qap, qao, qan, qaB, qaC]; rfl, ?_⟩; refine qax 24 (some 6) (qas 25 33554431) rfl rfl HT_.out (by kernel_rfl) (fun _ _ _ h => h) ⟨.inl ⟨by rfl, fun w' => by go_simp; with_reducible rfl⟩, by simp only [qaq, qam, qap, qao, qan, qaB, qaC]; rfl, ?_⟩; refine qgo (qe9 HT_.out (by kernel_rfl)) ?_
     try go_wp2
     go_ret
     exact ⟨by first | rfl | (simp [qaO, qaP] <;> rfl) | (simp [*, qaO, qaP] <;> rfl), by repeat (first | (with_reducible first | exact HB.out | apply qag | apply qad | apply qah | refine qaf ?_ qbM.out | refine qaf ?_ qbY.out | refine qaf ?_ qd9.out) | exact HB.out)⟩
    as_aux_lemma =>
    rw [if_neg c67] at H
    have c67b0 : (t715 == t719 && (t716 == t720)) = false := by simpa using c67
    (try (have c67b1 : decide (t715 = t719 && (t716 == t720)) = false := by simpa using c67))
    (try (have c67b2 : (t715 == t719 && (t716 == t720)) = false := by simpa using c67))
    (try (have c67b3 : ¬ (t715 = t719 && (t716 == t720)) := by simpa using c67))
    clear c67; obtain rfl := Option.some.inj H
    try go_wp2_with (first | ((with_reducible refine qaT (f := 19) rfl ?_); refine qbs (some 201) rfl rfl Try.func19 (by kernel_rfl) rfl #[.slice A0 l0.length c0, .int .i64 0, .int .i64 20] rfl (by (try simp only [List.map_toArray, List.map_cons, List.map_nil]); first | done | rfl | (simp only [List.length_drop, List.length_take]; rfl)) ?_; (with_reducible refine (qaL.calls k2 _ _ l0 0 20 t715 t716 t717 _ ?side1 ?side2 A64.out).mono ?_); (case side1 => repeat (first | exact (Kd.C_below HR0.out HB.out) | (with_reducible refine Kd.C_alloc ?_ _) | (with_reducible refine Kd.C_drewN ?_ _) | (with_reducible refine Kd.C_drew ?_))); (case side2 => exact HC0.out); rintro e w103 ⟨rfl, hb⟩; refine ⟨_, rfl, ?_⟩; have n0_ := qaa.mk (qar (g := qbP) (o := .cells #[.int .i64 a1_0, .int .i64 a1_1] 23 (0, 0)) (by (with_reducible repeat (first | refine qac ?_ _ | refine qae ?_ | refine qab ?_ _)); exact qaQ.out) hb); have n1_ := qaa.mk (qar (g := qbJ) (o := .cells #[.int .i64 t681, .int .i64 t682] 25 (0, 0)) (by (with_reducible repeat (first | refine qac ?_ _ | refine qae ?_ | refine qab ?_ _)); exact qaI.out) hb); have n2_ := qaa.mk (qaA (by repeat (first | (with_reducible first | exact HB.out | apply qag | apply qad | apply qah | refine qaf ?_ qbM.out | refine qaf ?_ qbY.out) | exact HB.out)) hb); clear qaQ; clear qaI; clear HB; have qaQ := n0_; have qaI := n1_; have HB := n2_; clear n0_ n1_ n2_; (try clear hb); (try clear hb2); (try clear hk); (try clear hi)) | ((with_reducible refine qa1 (N := 17) rfl ?_); (try (refine qdF (by rfl) ?_; dsimp only)); refine qbq ?hg (N := 17) ?hd (cs := #[.int .i64 0, .int .i64 0]) (t := 25) ?hr ?_; (case hd => rfl); (case hg => rfl); (case hr => first | (go_simp; done) | (go_simp; rfl)); intro qa7 hg w104 hbox hb; have n0_ := qaa.mk (qar (g := qbP) (o := .cells #[.int .i64 a1_0, .int .i64 a1_1] 23 (0, 0)) (by (with_reducible repeat (first | refine qac ?_ _ | refine qae ?_ | refine qab ?_ _)); exact qaQ.out) hb); have n1_ := qaa.mk (qar (g := qbJ) (o := .cells #[.int .i64 t681, .int .i64 t682] 25 (0, 0)) (by (with_reducible repeat (first | refine qac ?_ _ | refine qae ?_ | refine qab ?_ _)); exact qaI.out) hb); have n2_ := qaa.mk (qaA (by repeat (first | (with_reducible first | exact HB.out | apply qag | apply qad | apply qah | refine qaf ?_ qbM.out | refine qaf ?_ qbY.out) | exact HB.out)) hb); have n3_ := qaa.mk (hbox); have n4_ := qaa.mk ((by rw [hg]; exact (qav (by repeat (first | (with_reducible first | exact HB.out | apply qag | apply qad | apply qah | refine qaf ?_ qbM.out | refine qaf ?_ qbY.out) | exact HB.out))) : w.heap.size ≤ qa7)); have n5_ := qaa.mk ((by rw [hg]; exact (qav (by repeat (first | (with_reducible first | exact HB.out | apply qag | apply qad | apply qah | refine qaf ?_ qbM.out | refine qaf ?_ qbY.out) | exact HB.out))) : w.heap.size ≤ qa7)); have n6_ := qaa.mk ((by rw [hg]; exact Nat.ne_of_lt (qaN (g := qbP) (o := .cells #[.int .i64 a1_0, .int .i64 a1_1] 23 (0, 0)) (by (with_reducible repeat (first | refine qac ?_ _ | refine qae ?_ | refine qab ?_ _)); exact qaQ.out)) : qbP ≠ qa7)); have n7_ := qaa.mk ((by rw [hg]; exact Nat.ne_of_gt (qaN (g := qbP) (o := .cells #[.int .i64 a1_0, .int .i64 a1_1] 23 (0, 0)) (by (with_reducible repeat (first | refine qac ?_ _ | refine qae ?_ | refine qab ?_ _)); exact qaQ.out)) : qa7 ≠ qbP)); have n8_ := qaa.mk ((by rw [hg]; exact Nat.ne_of_lt (qaN (g := qbJ) (o := .cells #[.int .i64 t681, .int .i64 t682] 25 (0, 0)) (by (with_reducible repeat (first | refine qac ?_ _ | refine qae ?_ | refine qab ?_ _)); exact qaI.out)) : qbJ ≠ qa7)); have n9_ := qaa.mk ((by rw [hg]; exact Nat.ne_of_gt (qaN (g := qbJ) (o := .cells #[.int .i64 t681, .int .i64 t682] 25 (0, 0)) (by (with_reducible repeat (first | refine qac ?_ _ | refine qae ?_ | refine qab ?_ _)); exact qaI.out)) : qa7 ≠ qbJ)); clear qaQ; clear qaI; clear HB; have qaQ := n0_; have qaI := n1_; have HB := n2_; have qa6 := n3_; have qnu := n4_; have qd9 := n5_; have qdm := n6_; have qfs := n7_; have qdn := n8_; have qft := n9_; clear n0_ n1_ n2_ n3_ n4_ n5_ n6_ n7_ n8_ n9_; clear hb hbox hg; have qtN := qfs.out; have qtQ := qdm.out; have qCd := qft.out; have qCl := qdn.out; have qvm : w104.cell? ⟨qa7, 0, none⟩ = some (.int .i64 0) := (qai qa6.out 0).trans rfl; have qvn : w104.cell? ⟨qa7, 1, none⟩ = some (.int .i64 0) := (qai qa6.out 1).trans rfl; have qvP := qaj qa6.out 0; have qvQ := qaj qa6.out 1))
    have n0_ : qaa (((w104.setCell ⟨qa7, 0, none⟩ (.int .i64 t715)).setCell ⟨qa7, 1, none⟩ (.int .i64 t716)).heap[qbP]? = some (.cells #[.int .i64 a1_0, .int .i64 a1_1] 23 (0, 0))) := ⟨by (with_reducible repeat (first | refine qac ?_ _ | refine qae ?_ | refine qab ?_ _)); refine qau ?_ qdm.out _; (with_reducible repeat (first | refine qac ?_ _ | refine qae ?_ | refine qab ?_ _)); refine qau ?_ qdm.out _; (with_reducible repeat (first | refine qac ?_ _ | refine qae ?_ | refine qab ?_ _)); exact qaQ.out⟩; have n1_ : qaa (((w104.setCell ⟨qa7, 0, none⟩ (.int .i64 t715)).setCell ⟨qa7, 1, none⟩ (.int .i64 t716)).heap[qbJ]? = some (.cells #[.int .i64 t681, .int .i64 t682] 25 (0, 0))) := ⟨by (with_reducible repeat (first | refine qac ?_ _ | refine qae ?_ | refine qab ?_ _)); refine qau ?_ qdn.out _; (with_reducible repeat (first | refine qac ?_ _ | refine qae ?_ | refine qab ?_ _)); refine qau ?_ qdn.out _; (with_reducible repeat (first | refine qac ?_ _ | refine qae ?_ | refine qab ?_ _)); exact qaI.out⟩; have n2_ : qaa (((w104.setCell ⟨qa7, 0, none⟩ (.int .i64 t715)).setCell ⟨qa7, 1, none⟩ (.int .i64 t716)).heap[qa7]? = some (.cells #[.int .i64 t715, .int .i64 t716] 25 (0, 0))) := ⟨by (with_reducible repeat (first | refine qac ?_ _ | refine qae ?_ | refine qab ?_ _)); refine qaH (cs := #[.int .i64 t715, .int .i64 0]) ?_ 1 _ rfl; (with_reducible repeat (first | refine qac ?_ _ | refine qae ?_ | refine qab ?_ _)); refine qaH (cs := #[.int .i64 0, .int .i64 0]) ?_ 0 _ rfl; (with_reducible repeat (first | refine qac ?_ _ | refine qae ?_ | refine qab ?_ _)); exact qa6.out⟩; have n3_ : qaa (Below w.heap.size w ((w104.setCell ⟨qa7, 0, none⟩ (.int .i64 t715)).setCell ⟨qa7, 1, none⟩ (.int .i64 t716))) := ⟨by repeat (first | (with_reducible first | exact HB.out | apply qag | apply qad | apply qah | refine qaf ?_ qbM.out | refine qaf ?_ qbY.out | refine qaf ?_ qd9.out) | exact HB.out)⟩
    (try clear qaQ)
    (try clear qaI)
    (try clear qa6)
    (try clear HB)
    generalize ((w104.setCell ⟨qa7, 0, none⟩ (.int .i64 t715)).setCell ⟨qa7, 1, none⟩ (.int .i64 t716)) = w108 at n0_ n1_ n2_ n3_ ⊢
    have qaQ := n0_; have qaI := n1_; have qa6 := n2_; have HB := n3_; clear n0_ n1_ n2_ n3_; have n0_ := qaa.mk (qae qaQ.out); have n1_ := qaa.mk (qae qaI.out); have n2_ := qaa.mk (qae qa6.out); have n3_ := qaa.mk (qah HB.out); clear qaQ qaI qa6 HB; have qaQ := n0_; have qaI := n1_; have qa6 := n2_; have HB := n3_; clear n0_ n1_ n2_ n3_; refine qfM (n := 25) (S := fun w' => w'.cell? ⟨qa7, 0, none⟩ = some (.int .i64 t715) ∧ w'.cell? ⟨qa7, 1, none⟩ = some (.int .i64 t716)) (ds := []) (qas 25 0) (by kernel_rfl) rfl rfl ⟨(qai qa6.out 0).trans rfl, (qai qa6.out 1).trans rfl⟩ (fun hHeld => ?_); refine qel qak.tab21 qak.bits21 (fun HT_ HW_ => ?_)
    generalize w108.drew = w109 at qaQ qaI qa6 HB hHeld ⊢
    refine qax 0 (some 204) (qas 25 1) rfl rfl HT_.out (by kernel_rfl) (fun _ _ _ h => h) ⟨.inl ⟨by rfl, fun w' => by go_simp; with_reducible rfl⟩, by simp only [qaq, qam, qap, qao, qan, qaB, qaC]; rfl, ?_⟩; refine qax 1 (some 205) (qas 25 3) rfl rfl HT_.out (by kernel_rfl) (fun _ _ _ h => h) ⟨.inl ⟨by rfl, fun w' => by go_simp; with_reducible rfl⟩, by simp only [qaq, qam, qap, qao, qan, qaB, qaC]; rfl, ?_⟩; refine qax 2 (some 206) (qas 25 7) rfl rfl HT_.out (by kernel_rfl) (fun _ _ _ h => h) ⟨.inl ⟨by rfl, fun w' => by go_simp; with_reducible rfl⟩, by simp only [qaq, qam, qap, qao, qan, qaB, qaC]; rfl, ?_⟩; refine qax 4 (some 208) (qas 25 23) rfl rfl HT_.out (by kernel_rfl) (fun _ _ _ h => h) ⟨.inl ⟨by rfl, fun w' => by go_simp; with_reducible rfl⟩, by simp only [qaq, qam, qap, qao, qan, qaB, qaC]; rfl, ?_⟩; refine qax 5 (some 209) (qas 25 55) rfl rfl HT_.out (by kernel_rfl) (fun _ _ _ h => h) ⟨.inl ⟨by rfl, fun w' => by go_simp; with_reducible rfl⟩, by simp only [qaq, qam, qap, qao, qan, qaB, qaC]; rfl, ?_⟩; refine qcD 3 (some 207) (qas 25 63) rfl rfl (qcE HT_.out HW_.out (by kernel_rfl)) (fun _ _ _ h => h) hHeld ⟨.inl ⟨by rfl, by rintro w' ⟨s0, s1⟩; go_simp; with_reducible rfl⟩, by simp only [qaq, qam, qap, qao, qan, qaB, qaC]; rfl, ?_⟩; refine one_ (i := 6) (N := some 210) (qas 25 127) rfl rfl (qdd HT_.out (by kernel_rfl)) (by decide) (fun K hK => ?_); refine qd4 Try.func43 (by kernel_rfl) rfl #[.int .i64 qbH, .int .i64 qbH] (by rfl) rfl rfl (by (try simp only [List.map_toArray, List.map_cons, List.map_nil]); first | done | rfl | (simp only [List.length_drop, List.length_take]; rfl)) ?_
    with_reducible refine (qaK.calls qbH qbH t719 t720 _ A66.out).mono ?_
    rintro e w110 ⟨rfl, hb⟩; refine ⟨_, rfl, ?_⟩; have n0_ := qaa.mk (qar (g := qbP) (o := .cells #[.int .i64 a1_0, .int .i64 a1_1] 23 (0, 0)) (by (with_reducible repeat (first | refine qac ?_ _ | refine qae ?_ | refine qab ?_ _)); exact qaQ.out) hb); have n1_ := qaa.mk (qar (g := qbJ) (o := .cells #[.int .i64 t681, .int .i64 t682] 25 (0, 0)) (by (with_reducible repeat (first | refine qac ?_ _ | refine qae ?_ | refine qab ?_ _)); exact qaI.out) hb); have n2_ := qaa.mk (qar (g := qa7) (o := .cells #[.int .i64 t715, .int .i64 t716] 25 (0, 0)) (by (with_reducible repeat (first | refine qac ?_ _ | refine qae ?_ | refine qab ?_ _)); exact qa6.out) hb); have n3_ := qaa.mk (qaA (by repeat (first | (with_reducible first | exact HB.out | apply qag | apply qad | apply qah | refine qaf ?_ qbM.out | refine qaf ?_ qbY.out | refine qaf ?_ qd9.out) | exact HB.out)) hb); clear qaQ qaI qa6 HB; have qaQ := n0_; have qaI := n1_; have qa6 := n2_; have HB := n3_; clear n0_ n1_ n2_ n3_
    (try clear hb)
    (try clear hb2)
    (try clear hk)
    (try clear hi)
    refine hK.out _ _ ⟨(qai qa6.out 0).trans rfl, (qai qa6.out 1).trans rfl⟩ (fun hHeld => ?_); clear hK K; refine qcX (a' := ?_) ?_ ?_; rotate_left
    ·
     show Act.put _ (some 210) _ = _
     simp only [qaq, qam, qap, qao, qan, qaB, qaC]; rfl
    refine qax 7 (some 211) (qas 25 255) rfl rfl HT_.out (by kernel_rfl) (fun _ _ _ h => h) ⟨.inl ⟨by rfl, fun w' => by go_simp; with_reducible rfl⟩, by simp only [qaq, qam, qap, qao, qan, qaB, qaC]; rfl, ?_⟩; refine qax 8 (some 212) (qas 25 511) rfl rfl HT_.out (by kernel_rfl) (fun _ _ _ h => h) ⟨.inl ⟨by rfl, fun w' => by go_simp; with_reducible rfl⟩, by simp only [qaq, qam, qap, qao, qan, qaB, qaC]; rfl, ?_⟩; refine qax 9 (some 213) (qas 25 1023) rfl rfl HT_.out (by kernel_rfl) (fun _ _ _ h => h) ⟨.inl ⟨by rfl, fun w' => by go_simp; with_reducible rfl⟩, by simp only [qaq, qam, qap, qao, qan, qaB, qaC]; rfl, ?_⟩; refine qax 10 (some 214) (qas 25 2047) rfl rfl HT_.out (by kernel_rfl) (fun _ _ _ h => h) ⟨.inr ⟨by rfl, rfl⟩, by simp only [qaq, qam, qap, qao, qan, qaB, qaC]; rfl, ?_⟩; refine qax 11 (some 215) (qas 25 4095) rfl rfl HT_.out (by kernel_rfl) (fun _ _ _ h => h) ⟨.inr ⟨by rfl, rfl⟩, by simp only [qaq, qam, qap, qao, qan, qaB, qaC]; rfl, ?_⟩; refine qax 12 (some 216) (qas 25 8191) rfl rfl HT_.out (by kernel_rfl) (fun _ _ _ h => h) ⟨.inr ⟨by rfl, rfl⟩, by simp only [qaq, qam, qap, qao, qan, qaB, qaC]; rfl, ?_⟩; refine qax 13 (some 217) (qas 25 16383) rfl rfl HT_.out (by kernel_rfl) (fun _ _ _ h => h) ⟨.inl ⟨by rfl, fun w' => by go_simp; with_reducible rfl⟩, by simp only [qaq, qam, qap, qao, qan, qaB, qaC]; rfl, ?_⟩; refine qax 14 (some 218) (qas 25 32767) rfl rfl HT_.out (by kernel_rfl) (fun _ _ _ h => h) ⟨.inl ⟨by rfl, fun w' => by go_simp; with_reducible rfl⟩, by simp only [qaq, qam, qap, qao, qan, qaB, qaC]; rfl, ?_⟩; refine qax 15 (some 219) (qas 25 65535) rfl rfl HT_.out (by kernel_rfl) (fun _ _ _ h => h) ⟨.inr ⟨by rfl, rfl⟩, by simp only [qaq, qam, qap, qao, qan, qaB, qaC]; rfl, ?_⟩; refine qax 16 (some 220) (qas 25 131071) rfl rfl HT_.out (by kernel_rfl) (fun _ _ _ h => h) ⟨.inr ⟨by rfl, rfl⟩, by simp only [qaq, qam, qap, qao, qan, qaB, qaC]; rfl, ?_⟩; refine qax 17 (some 221) (qas 25 262143) rfl rfl HT_.out (by kernel_rfl) (fun _ _ _ h => h) ⟨.inr ⟨by rfl, rfl⟩, by simp only [qaq, qam, qap, qao, qan, qaB, qaC]; rfl, ?_⟩; refine qax 18 (some 222) (qas 25 524287) rfl rfl HT_.out (by kernel_rfl) (fun _ _ _ h => h) ⟨.inr ⟨by rfl, rfl⟩, by simp only [qaq, qam, qap, qao, qan, qaB, qaC]; rfl, ?_⟩; refine qax 19 (some 223) (qas 25 1048575) rfl rfl HT_.out (by kernel_rfl) (fun _ _ _ h => h) ⟨.inr ⟨by rfl, rfl⟩, by simp only [qaq, qam, qap, qao, qan, qaB, qaC]; rfl, ?_⟩; refine qax 20 (some 224) (qas 25 2097151) rfl rfl HT_.out (by kernel_rfl) (fun _ _ _ h => h) ⟨.inl ⟨by rfl, fun w' => by go_simp; with_reducible rfl⟩, by simp only [qaq, qam, qap, qao, qan, qaB, qaC]; rfl, ?_⟩; refine qax 21 (some 225) (qas 25 4194303) rfl rfl HT_.out (by kernel_rfl) (fun _ _ _ h => h) ⟨.inl ⟨by rfl, fun w' => by go_simp; with_reducible rfl⟩, by simp only [qaq, qam, qap, qao, qan, qaB, qaC]; rfl, ?_⟩; refine qax 22 (some 226) (qas 25 8388607) rfl rfl HT_.out (by kernel_rfl) (fun _ _ _ h => h) ⟨.inr ⟨by rfl, rfl⟩, by simp only [qaq, qam, qap, qao, qan, qaB, qaC]; rfl, ?_⟩; refine qax 23 (some 227) (qas 25 16777215) rfl rfl HT_.out (by kernel_rfl) (fun _ _ _ h => h) ⟨.inl ⟨by rfl, fun w' => by go_simp; with_reducible rfl⟩, by simp only [qaq, qam, qap, qao, qan, qaB, qaC]; rfl, ?_⟩; refine qax 24 (some 6) (qas 25 33554431) rfl rfl HT_.out (by kernel_rfl) (fun _ _ _ h => h) ⟨.inl ⟨by rfl, fun w' => by go_simp; with_reducible rfl⟩, by simp only [qaq, qam, qap, qao, qan, qaB, qaC]; rfl, ?_⟩; refine qgo (qe9 HT_.out (by kernel_rfl)) ?_
    try go_wp2
    go_ret
    exact ⟨by first | rfl | (simp [qaO, qaP] <;> rfl) | (simp [*, qaO, qaP] <;> rfl), by repeat (first | (with_reducible first | exact HB.out | apply qag | apply qad | apply qah | refine qaf ?_ qbM.out | refine qaf ?_ qbY.out | refine qaf ?_ qd9.out) | exact HB.out)⟩
   as_aux_lemma =>
   rw [if_neg c65] at H
   have c65b0 : (t717 == 0) = false := beq_eq_false_iff_ne.mpr c65
   have c65b1 : (t717 != 0) = true := bne_iff_ne.mpr c65
   obtain rfl := Option.some.inj H
   try go_wp2_with (first | ((with_reducible refine qaT (f := 19) rfl ?_); refine qbs (some 201) rfl rfl Try.func19 (by kernel_rfl) rfl #[.slice A0 l0.length c0, .int .i64 0, .int .i64 20] rfl (by (try simp only [List.map_toArray, List.map_cons, List.map_nil]); first | done | rfl | (simp only [List.length_drop, List.length_take]; rfl)) ?_; (with_reducible refine (qaL.calls k2 _ _ l0 0 20 t715 t716 t717 _ ?side1 ?side2 A64.out).mono ?_); (case side1 => repeat (first | exact (Kd.C_below HR0.out HB.out) | (with_reducible refine Kd.C_alloc ?_ _) | (with_reducible refine Kd.C_drewN ?_ _) | (with_reducible refine Kd.C_drew ?_))); (case side2 => exact HC0.out); rintro e w111 ⟨rfl, hb⟩; refine ⟨_, rfl, ?_⟩; have n0_ := qaa.mk (qar (g := qbP) (o := .cells #[.int .i64 a1_0, .int .i64 a1_1] 23 (0, 0)) (by (with_reducible repeat (first | refine qac ?_ _ | refine qae ?_ | refine qab ?_ _)); exact qaQ.out) hb); have n1_ := qaa.mk (qar (g := qbJ) (o := .cells #[.int .i64 t681, .int .i64 t682] 25 (0, 0)) (by (with_reducible repeat (first | refine qac ?_ _ | refine qae ?_ | refine qab ?_ _)); exact qaI.out) hb); have n2_ := qaa.mk (qaA (by repeat (first | (with_reducible first | exact HB.out | apply qag | apply qad | apply qah | refine qaf ?_ qbM.out | refine qaf ?_ qbY.out) | exact HB.out)) hb); clear qaQ; clear qaI; clear HB; have qaQ := n0_; have qaI := n1_; have HB := n2_; clear n0_ n1_ n2_; (try clear hb); (try clear hb2); (try clear hk); (try clear hi)) | ((with_reducible refine qa1 (N := 17) rfl ?_); (try (refine qdF (by rfl) ?_; dsimp only)); refine qbq ?hg (N := 17) ?hd (cs := #[.int .i64 0, .int .i64 0]) (t := 25) ?hr ?_; (case hd => rfl); (case hg => rfl); (case hr => first | (go_simp; done) | (go_simp; rfl)); intro qa7 hg w112 hbox hb; have n0_ := qaa.mk (qar (g := qbP) (o := .cells #[.int .i64 a1_0, .int .i64 a1_1] 23 (0, 0)) (by (with_reducible repeat (first | refine qac ?_ _ | refine qae ?_ | refine qab ?_ _)); exact qaQ.out) hb); have n1_ := qaa.mk (qar (g := qbJ) (o := .cells #[.int .i64 t681, .int .i64 t682] 25 (0, 0)) (by (with_reducible repeat (first | refine qac ?_ _ | refine qae ?_ | refine qab ?_ _)); exact qaI.out) hb); have n2_ := qaa.mk (qaA (by repeat (first | (with_reducible first | exact HB.out | apply qag | apply qad | apply qah | refine qaf ?_ qbM.out | refine qaf ?_ qbY.out) | exact HB.out)) hb); have n3_ := qaa.mk (hbox); have n4_ := qaa.mk ((by rw [hg]; exact (qav (by repeat (first | (with_reducible first | exact HB.out | apply qag | apply qad | apply qah | refine qaf ?_ qbM.out | refine qaf ?_ qbY.out) | exact HB.out))) : w.heap.size ≤ qa7)); have n5_ := qaa.mk ((by rw [hg]; exact (qav (by repeat (first | (with_reducible first | exact HB.out | apply qag | apply qad | apply qah | refine qaf ?_ qbM.out | refine qaf ?_ qbY.out) | exact HB.out))) : w.heap.size ≤ qa7)); have n6_ := qaa.mk ((by rw [hg]; exact Nat.ne_of_lt (qaN (g := qbP) (o := .cells #[.int .i64 a1_0, .int .i64 a1_1] 23 (0, 0)) (by (with_reducible repeat (first | refine qac ?_ _ | refine qae ?_ | refine qab ?_ _)); exact qaQ.out)) : qbP ≠ qa7)); have n7_ := qaa.mk ((by rw [hg]; exact Nat.ne_of_gt (qaN (g := qbP) (o := .cells #[.int .i64 a1_0, .int .i64 a1_1] 23 (0, 0)) (by (with_reducible repeat (first | refine qac ?_ _ | refine qae ?_ | refine qab ?_ _)); exact qaQ.out)) : qa7 ≠ qbP)); have n8_ := qaa.mk ((by rw [hg]; exact Nat.ne_of_lt (qaN (g := qbJ) (o := .cells #[.int .i64 t681, .int .i64 t682] 25 (0, 0)) (by (with_reducible repeat (first | refine qac ?_ _ | refine qae ?_ | refine qab ?_ _)); exact qaI.out)) : qbJ ≠ qa7)); have n9_ := qaa.mk ((by rw [hg]; exact Nat.ne_of_gt (qaN (g := qbJ) (o := .cells #[.int .i64 t681, .int .i64 t682] 25 (0, 0)) (by (with_reducible repeat (first | refine qac ?_ _ | refine qae ?_ | refine qab ?_ _)); exact qaI.out)) : qa7 ≠ qbJ)); clear qaQ; clear qaI; clear HB; have qaQ := n0_; have qaI := n1_; have HB := n2_; have qa6 := n3_; have qnu := n4_; have qd9 := n5_; have qdm := n6_; have qfs := n7_; have qdn := n8_; have qft := n9_; clear n0_ n1_ n2_ n3_ n4_ n5_ n6_ n7_ n8_ n9_; clear hb hbox hg; have qtO := qfs.out; have qtR := qdm.out; have qtP := qft.out; have qtS := qdn.out; have qqB : w112.cell? ⟨qa7, 0, none⟩ = some (.int .i64 0) := (qai qa6.out 0).trans rfl; have qqC : w112.cell? ⟨qa7, 1, none⟩ = some (.int .i64 0) := (qai qa6.out 1).trans rfl; have qqD := qaj qa6.out 0; have qqE := qaj qa6.out 1))
   have n0_ : qaa (((w112.setCell ⟨qa7, 0, none⟩ (.int .i64 t715)).setCell ⟨qa7, 1, none⟩ (.int .i64 t716)).heap[qbP]? = some (.cells #[.int .i64 a1_0, .int .i64 a1_1] 23 (0, 0))) := ⟨by (with_reducible repeat (first | refine qac ?_ _ | refine qae ?_ | refine qab ?_ _)); refine qau ?_ qdm.out _; (with_reducible repeat (first | refine qac ?_ _ | refine qae ?_ | refine qab ?_ _)); refine qau ?_ qdm.out _; (with_reducible repeat (first | refine qac ?_ _ | refine qae ?_ | refine qab ?_ _)); exact qaQ.out⟩
   have n1_ : qaa (((w112.setCell ⟨qa7, 0, none⟩ (.int .i64 t715)).setCell ⟨qa7, 1, none⟩ (.int .i64 t716)).heap[qbJ]? = some (.cells #[.int .i64 t681, .int .i64 t682] 25 (0, 0))) := ⟨by (with_reducible repeat (first | refine qac ?_ _ | refine qae ?_ | refine qab ?_ _)); refine qau ?_ qdn.out _; (with_reducible repeat (first | refine qac ?_ _ | refine qae ?_ | refine qab ?_ _)); refine qau ?_ qdn.out _; (with_reducible repeat (first | refine qac ?_ _ | refine qae ?_ | refine qab ?_ _)); exact qaI.out⟩
   have n2_ : qaa (((w112.setCell ⟨qa7, 0, none⟩ (.int .i64 t715)).setCell ⟨qa7, 1, none⟩ (.int .i64 t716)).heap[qa7]? = some (.cells #[.int .i64 t715, .int .i64 t716] 25 (0, 0))) := ⟨by (with_reducible repeat (first | refine qac ?_ _ | refine qae ?_ | refine qab ?_ _)); refine qaH (cs := #[.int .i64 t715, .int .i64 0]) ?_ 1 _ rfl; (with_reducible repeat (first | refine qac ?_ _ | refine qae ?_ | refine qab ?_ _)); refine qaH (cs := #[.int .i64 0, .int .i64 0]) ?_ 0 _ rfl; (with_reducible repeat (first | refine qac ?_ _ | refine qae ?_ | refine qab ?_ _)); exact qa6.out⟩
   have n3_ : qaa (Below w.heap.size w ((w112.setCell ⟨qa7, 0, none⟩ (.int .i64 t715)).setCell ⟨qa7, 1, none⟩ (.int .i64 t716))) := ⟨by repeat (first | (with_reducible first | exact HB.out | apply qag | apply qad | apply qah | refine qaf ?_ qbM.out | refine qaf ?_ qbY.out | refine qaf ?_ qd9.out) | exact HB.out)⟩
   (try clear qaQ)
   (try clear qaI)
   (try clear qa6)
   (try clear HB)
   generalize ((w112.setCell ⟨qa7, 0, none⟩ (.int .i64 t715)).setCell ⟨qa7, 1, none⟩ (.int .i64 t716)) = w116 at n0_ n1_ n2_ n3_ ⊢
   have qaQ := n0_
   have qaI := n1_
   have qa6 := n2_
   have HB := n3_
   clear n0_ n1_ n2_ n3_
   have n0_ := qaa.mk (qae qaQ.out)
   have n1_ := qaa.mk (qae qaI.out)
   have n2_ := qaa.mk (qae qa6.out)
   have n3_ := qaa.mk (qah HB.out)
   clear qaQ
   clear qaI
   clear qa6
   clear HB
   have qaQ := n0_
   have qaI := n1_
   have qa6 := n2_
   have HB := n3_
   clear n0_ n1_ n2_ n3_
   refine qfM (n := 25) (S := fun w' => True) (ds := []) (qas 25 0) (by kernel_rfl) rfl rfl trivial (fun hHeld => ?_); refine qel qak.tab21 qak.bits21 (fun HT_ HW_ => ?_)
   generalize w116.drew = w117 at qaQ qaI qa6 HB hHeld ⊢
   refine qax 0 (some 204) (qas 25 1) rfl rfl HT_.out (by kernel_rfl) (fun _ _ _ h => h) ⟨.inl ⟨by rfl, fun w' => by go_simp; with_reducible rfl⟩, by simp only [qaq, qam, qap, qao, qan, qaB, qaC]; rfl, ?_⟩
   refine qax 1 (some 205) (qas 25 3) rfl rfl HT_.out (by kernel_rfl) (fun _ _ _ h => h) ⟨.inl ⟨by rfl, fun w' => by go_simp; with_reducible rfl⟩, by simp only [qaq, qam, qap, qao, qan, qaB, qaC]; rfl, ?_⟩
   refine qax 2 (some 206) (qas 25 7) rfl rfl HT_.out (by kernel_rfl) (fun _ _ _ h => h) ⟨.inl ⟨by rfl, fun w' => by go_simp; with_reducible rfl⟩, by simp only [qaq, qam, qap, qao, qan, qaB, qaC]; rfl, ?_⟩
   refine qax 3 (some 207) (qas 25 15) rfl rfl HT_.out (by kernel_rfl) (fun _ _ _ h => h) ⟨.inr ⟨by rfl, rfl⟩, by simp only [qaq, qam, qap, qao, qan, qaB, qaC]; rfl, ?_⟩
   refine qax 4 (some 208) (qas 25 31) rfl rfl HT_.out (by kernel_rfl) (fun _ _ _ h => h) ⟨.inr ⟨by rfl, rfl⟩, by simp only [qaq, qam, qap, qao, qan, qaB, qaC]; rfl, ?_⟩
   refine qax 5 (some 209) (qas 25 63) rfl rfl HT_.out (by kernel_rfl) (fun _ _ _ h => h) ⟨.inr ⟨by rfl, rfl⟩, by simp only [qaq, qam, qap, qao, qan, qaB, qaC]; rfl, ?_⟩
   refine qax 6 (some 210) (qas 25 127) rfl rfl HT_.out (by kernel_rfl) (fun _ _ _ h => h) ⟨.inr ⟨by rfl, rfl⟩, by simp only [qaq, qam, qap, qao, qan, qaB, qaC]; rfl, ?_⟩
   refine qax 7 (some 211) (qas 25 255) rfl rfl HT_.out (by kernel_rfl) (fun _ _ _ h => h) ⟨.inr ⟨by rfl, rfl⟩, by simp only [qaq, qam, qap, qao, qan, qaB, qaC]; rfl, ?_⟩
   refine qax 8 (some 212) (qas 25 511) rfl rfl HT_.out (by kernel_rfl) (fun _ _ _ h => h) ⟨.inl ⟨by rfl, fun w' => by go_simp; with_reducible rfl⟩, by simp only [qaq, qam, qap, qao, qan, qaB, qaC]; rfl, ?_⟩
   refine qax 9 (some 213) (qas 25 1023) rfl rfl HT_.out (by kernel_rfl) (fun _ _ _ h => h) ⟨.inl ⟨by rfl, fun w' => by go_simp; with_reducible rfl⟩, by simp only [qaq, qam, qap, qao, qan, qaB, qaC]; rfl, ?_⟩
   refine qax 10 (some 214) (qas 25 2047) rfl rfl HT_.out (by kernel_rfl) (fun _ _ _ h => h) ⟨.inr ⟨by rfl, rfl⟩, by simp only [qaq, qam, qap, qao, qan, qaB, qaC]; rfl, ?_⟩
   refine qax 11 (some 215) (qas 25 4095) rfl rfl HT_.out (by kernel_rfl) (fun _ _ _ h => h) ⟨.inr ⟨by rfl, rfl⟩, by simp only [qaq, qam, qap, qao, qan, qaB, qaC]; rfl, ?_⟩
   refine qax 12 (some 216) (qas 25 8191) rfl rfl HT_.out (by kernel_rfl) (fun _ _ _ h => h) ⟨.inr ⟨by rfl, rfl⟩, by simp only [qaq, qam, qap, qao, qan, qaB, qaC]; rfl, ?_⟩
   refine qax 13 (some 217) (qas 25 16383) rfl rfl HT_.out (by kernel_rfl) (fun _ _ _ h => h) ⟨.inl ⟨by rfl, fun w' => by go_simp; with_reducible rfl⟩, by simp only [qaq, qam, qap, qao, qan, qaB, qaC]; rfl, ?_⟩
   refine qax 14 (some 218) (qas 25 32767) rfl rfl HT_.out (by kernel_rfl) (fun _ _ _ h => h) ⟨.inl ⟨by rfl, fun w' => by go_simp; with_reducible rfl⟩, by simp only [qaq, qam, qap, qao, qan, qaB, qaC]; rfl, ?_⟩
   refine qax 15 (some 219) (qas 25 65535) rfl rfl HT_.out (by kernel_rfl) (fun _ _ _ h => h) ⟨.inr ⟨by rfl, rfl⟩, by simp only [qaq, qam, qap, qao, qan, qaB, qaC]; rfl, ?_⟩
   refine qax 16 (some 220) (qas 25 131071) rfl rfl HT_.out (by kernel_rfl) (fun _ _ _ h => h) ⟨.inr ⟨by rfl, rfl⟩, by simp only [qaq, qam, qap, qao, qan, qaB, qaC]; rfl, ?_⟩
   refine qax 17 (some 221) (qas 25 262143) rfl rfl HT_.out (by kernel_rfl) (fun _ _ _ h => h) ⟨.inr ⟨by rfl, rfl⟩, by simp only [qaq, qam, qap, qao, qan, qaB, qaC]; rfl, ?_⟩
   refine qax 18 (some 222) (qas 25 524287) rfl rfl HT_.out (by kernel_rfl) (fun _ _ _ h => h) ⟨.inr ⟨by rfl, rfl⟩, by simp only [qaq, qam, qap, qao, qan, qaB, qaC]; rfl, ?_⟩
   refine qax 19 (some 223) (qas 25 1048575) rfl rfl HT_.out (by kernel_rfl) (fun _ _ _ h => h) ⟨.inr ⟨by rfl, rfl⟩, by simp only [qaq, qam, qap, qao, qan, qaB, qaC]; rfl, ?_⟩
   refine qax 20 (some 224) (qas 25 2097151) rfl rfl HT_.out (by kernel_rfl) (fun _ _ _ h => h) ⟨.inl ⟨by rfl, fun w' => by go_simp; with_reducible rfl⟩, by simp only [qaq, qam, qap, qao, qan, qaB, qaC]; rfl, ?_⟩
   refine qax 21 (some 225) (qas 25 4194303) rfl rfl HT_.out (by kernel_rfl) (fun _ _ _ h => h) ⟨.inl ⟨by rfl, fun w' => by go_simp; with_reducible rfl⟩, by simp only [qaq, qam, qap, qao, qan, qaB, qaC]; rfl, ?_⟩
   refine qax 22 (some 226) (qas 25 8388607) rfl rfl HT_.out (by kernel_rfl) (fun _ _ _ h => h) ⟨.inr ⟨by rfl, rfl⟩, by simp only [qaq, qam, qap, qao, qan, qaB, qaC]; rfl, ?_⟩
   refine qax 23 (some 227) (qas 25 16777215) rfl rfl HT_.out (by kernel_rfl) (fun _ _ _ h => h) ⟨.inl ⟨by rfl, fun w' => by go_simp; with_reducible rfl⟩, by simp only [qaq, qam, qap, qao, qan, qaB, qaC]; rfl, ?_⟩
   refine qax 24 (some 6) (qas 25 33554431) rfl rfl HT_.out (by kernel_rfl) (fun _ _ _ h => h) ⟨.inl ⟨by rfl, fun w' => by go_simp; with_reducible rfl⟩, by simp only [qaq, qam, qap, qao, qan, qaB, qaC]; rfl, ?_⟩
   refine qgo (qe9 HT_.out (by kernel_rfl)) ?_
   try go_wp2
   go_ret
   exact ⟨by first | rfl | (simp [qaO, qaP] <;> rfl) | (simp [*, qaO, qaP] <;> rfl), by repeat (first | (with_reducible first | exact HB.out | apply qag | apply qad | apply qah | refine qaf ?_ qbM.out | refine qaf ?_ qbY.out | refine qaf ?_ qd9.out) | exact HB.out)⟩
end Go.Proofs.Ytmhomdohhihlcaa.P
namespace Go.Proofs.Ytmhomdohhihlcaa.P
open Go.RowKit Go.ChangeShapes Go.WideShapes Go.Proofs.YtmhomdohhihlcaaW.PrintWords Go.Proofs.YtmhomdohhihlcaaW.PrintLast Go.Proofs.YtmhomdohhihlcaaW.PrintMore
def qic {α : Type} (d : Kd α) (t : TypeId) (p : α → Prop) : Prop := ∀ (H : Type) (enc : TypeId × Value → H) (w : World) (fuel : Nat) (cs : List Value) (x : DataW H × List MemPlace),
 DataW.trod enc Try.prog w 0 (fun _ => true) true fuel t cs = some x → ∃ a, d.K w a cs ∧ p a
def Wf (n : Int) : Prop := (Lit.int .i64 n).wf = true
theorem qqk : qic (Kd.int .i64) 3 Wf := fun H enc w fuel cs x h => by
 obtain ⟨n, rfl, _, hw⟩ := DataW.trod_int Try.underlying3 h
 exact ⟨n, rfl, hw⟩
theorem qlk {α : Type} {d : Kd α} {e e' t : TypeId} {p : α → Prop} (h : qic d e p) (ht : Try.prog.underlying t = some (.slice e)) (hc : Try.prog.cellsOf e = d.sz) : qic (Kd.slice e' d) t (fun xs => ∀ x ∈ xs, p x) := fun H enc w fuel cs x hf => by
 rcases Deep.open_slice ht hf with ⟨rfl, _⟩ | ⟨a, len, cap, m, n, D, Pl, rfl, _, hl, hm, hmm, _, hx⟩
 ·
  exact ⟨[], ⟨none, 0, rfl, Nat.le_refl _, Kd.C_nil d w⟩, fun x hx => by simp at hx⟩
 ·
  have each : ∀ i, i < len → ∃ z : α, (∃ c, c.length = d.sz ∧ d.K w z c ∧ ∀ j u, c[j]? = some u → w.cell? (a.add (i * d.sz + j)) = some u) ∧ p z := fun i hi => by
   obtain ⟨cs', h1, h2⟩ := hx i (by simp only [if_true] at hmm; omega)
   obtain ⟨z, hz, hp⟩ := h H enc w n cs' _ h2
   obtain ⟨_, hcl, hat⟩ := World.cells?_some h1
   refine ⟨z, ⟨cs', d.K_len hz, hz, fun j u hu => ?_⟩, hp⟩
   have hj : j < cs'.length := (List.getElem?_eq_some_iff.1 hu).1
   rw [d.K_len hz] at hj
   have hj' : j < Try.prog.cellsOf e := by rw [hc]; exact hj
   have h3 := hat j hj'
   rw [Deep.add_add, hc] at h3
   rw [h3]
   exact hu
  by_cases h0 : len = 0
  ·
   subst h0
   exact ⟨[], ⟨some a, cap, rfl, by simp, ⟨rfl, by simp, fun hh => by simp at hh⟩⟩, fun x hx => by simp at hx⟩
  ·
   obtain ⟨z0, _⟩ := each 0 (by omega)
   have inst : Inhabited α := ⟨z0⟩
   obtain ⟨f, hfz⟩ := Deep.choose_lt each
   have hmx : cap ≤ 9223372036854775807 := by unfold maxLen at hm; omega
   refine ⟨(List.range len).map f, ⟨some a, cap, by simp, by simpa using hl, ⟨rfl, by simp; omega, fun _ => ⟨a, rfl, fun j q hj => ?_⟩⟩⟩, fun x hx => ?_⟩
   ·
    have hj2 : j < len := by have := (List.getElem?_eq_some_iff.1 hj).1; simpa using this
    rw [List.getElem?_map, List.getElem?_range hj2] at hj
    injection hj with hj
    subst hj; obtain ⟨c, c1, c2, c3⟩ := (hfz j hj2).1
    exact ⟨c, c1, c2, c3⟩
   ·
    obtain ⟨i, hi, rfl⟩ := List.mem_map.1 hx
    exact (hfz i (List.mem_range.1 hi)).2
theorem c3 : Try.prog.cellsOf 3 = 1 := by kernel_rfl
theorem c25 : Try.prog.cellsOf 25 = 2 := by kernel_rfl
theorem c68 : Try.prog.cellsOf 68 = 3 := by kernel_rfl
theorem c37 : Try.prog.cellsOf 37 = 1 := by kernel_rfl
theorem c32 : Try.prog.cellsOf 32 = 1 := by kernel_rfl
theorem c63 : Try.prog.cellsOf 63 = 1 := by kernel_rfl
theorem c44 : Try.prog.cellsOf 44 = 1 := by kernel_rfl
theorem c45 : Try.prog.cellsOf 45 = 1 := by kernel_rfl
theorem c39 : Try.prog.cellsOf 39 = 5 := by kernel_rfl
theorem c47 : Try.prog.cellsOf 47 = 3 := by kernel_rfl
theorem c23 : Try.prog.cellsOf 23 = 2 := by kernel_rfl
theorem len2 {α : Type} {l : List α} (h : l.length = 2) : ∃ a b, l = [a, b] := by
 match l, h with
 | [a, b], _ => exact ⟨a, b, rfl⟩
theorem len3 {α : Type} {l : List α} (h : l.length = 3) : ∃ a b c, l = [a, b, c] := by
 match l, h with
 | [a, b, c], _ => exact ⟨a, b, c, rfl⟩
theorem qjR {α : Type} {l : List α} {i : Nat} {o : Option α} (hi : i < l.length) (h : o = l[i]?) : ∃ y, o = some y := ⟨l[i], by rw [h, List.getElem?_eq_getElem hi]⟩
def W25 (s : S25) : Prop := Wf s.f0 ∧ Wf s.f1
def W68 (s : S68) : Prop := Wf s.f0 ∧ W25 s.f1
def WL (l : List Int) : Prop := ∀ x ∈ l, Wf x
theorem qpJ : qic (Kd.slice 3 (Kd.int .i64)) 37 WL := qlk qqk Try.underlying37 c3
theorem qqL : qic k25 25 W25 := fun H enc w fuel cs x h => by
 obtain ⟨xs, n, _, _, hl, hxl, hf⟩ := DataW.trod_struct Try.underlying25 h
 rw [c25] at hl
 obtain ⟨a, b, rfl⟩ := len2 hl
 have h0 : DataW.trod enc Try.prog w 0 (fun _ => true) true n 3 (([a, b].drop 0).take (Try.prog.cellsOf 3)) = xs[0]? := hf 0 _ rfl
 have h1 : DataW.trod enc Try.prog w 0 (fun _ => true) true n 3 (([a, b].drop 1).take (Try.prog.cellsOf 3)) = xs[1]? := hf 1 _ rfl
 rw [c3] at h0 h1
 have hx2 : xs.length = 2 := hxl
 obtain ⟨y0, e0⟩ := qjR (by omega) h0
 obtain ⟨y1, e1⟩ := qjR (by omega) h1
 obtain ⟨n0, q0, _, g0⟩ := DataW.trod_int Try.underlying3 e0
 obtain ⟨n1, q1, _, g1⟩ := DataW.trod_int Try.underlying3 e1
 replace q0 : [a] = [Value.int .i64 n0] := q0
 replace q1 : [b] = [Value.int .i64 n1] := q1
 injection q0 with q0
 injection q1 with q1
 subst q0 q1
 exact ⟨⟨n0, n1⟩, qog w ⟨n0, n1⟩, g0, g1⟩
theorem qqM : qic k68 68 W68 := fun H enc w fuel cs x h => by
 obtain ⟨xs, n, _, _, hl, hxl, hf⟩ := DataW.trod_struct Try.underlying68 h
 rw [c68] at hl
 obtain ⟨a, b, c, rfl⟩ := len3 hl
 have h0 : DataW.trod enc Try.prog w 0 (fun _ => true) true n 3 (([a, b, c].drop 0).take (Try.prog.cellsOf 3)) = xs[0]? := hf 0 _ rfl
 have h1 : DataW.trod enc Try.prog w 0 (fun _ => true) true n 25 (([a, b, c].drop 1).take (Try.prog.cellsOf 25)) = xs[1]? := hf 1 _ rfl
 rw [c3] at h0
 rw [c25] at h1
 have hx2 : xs.length = 2 := hxl
 obtain ⟨y0, e0⟩ := qjR (by omega) h0
 obtain ⟨y1, e1⟩ := qjR (by omega) h1
 obtain ⟨n0, q0, _, g0⟩ := DataW.trod_int Try.underlying3 e0
 obtain ⟨s1, q1, g1⟩ := qqL H enc w n _ _ e1
 replace q0 : [a] = [Value.int .i64 n0] := q0
 injection q0 with q0
 subst q0
 have q2 : [b, c] = [Value.int .i64 s1.f0, .int .i64 s1.f1] := qlp q1
 injection q2 with q3 q4
 injection q4 with q4
 subst q3 q4
 exact ⟨⟨n0, s1⟩, qtU w ⟨n0, s1⟩, g0, g1⟩
theorem qon : qic (Kd.slice 68 k68) 22 (fun l => ∀ x ∈ l, W68 x) := qlk qqM Try.underlying22 c68
section
variable {H : Type} {enc : TypeId × Value → H} {W : World} {d : DataW H} {ps : List MemPlace}
theorem qne {α : Type} {k : Kd α} {t e' : TypeId} {p : List α → Prop} (hr : qic (Kd.slice e' k) t p) {a : Option Addr} {len cap : Nat} (h : DataW.Trod enc Try.prog W 0 (fun _ => true) true t (.slice a len cap) d ps) :
  ∃ l : List α, len = l.length ∧ Kd.C k W a l.length l ∧ l.length ≤ cap ∧ p l := by
 obtain ⟨fuel, hf⟩ := h
 obtain ⟨l, ⟨A, c, e1, hc, hC⟩, hp⟩ := hr H enc W fuel _ _ hf
 replace e1 : [Value.slice a len cap] = [Value.slice A l.length c] := e1
 injection e1 with e1
 injection e1 with e1 e2 e3
 subst e1 e2 e3
 exact ⟨l, rfl, hC, hc, hp⟩
theorem qnX {t e : TypeId} {a : Option Addr} {len cap : Nat} {ts : List TypeId} {ds : List (DataW H)} {j : Nat} {B : Nat}
  (hsz : (DataW.weightsEach Try.prog ts ds).all (· ≤ reachBytes) = true) (ht : ts[j]? = some t) (hd : ds[j]? = some d) (hu : Try.prog.underlying t = some (.slice e)) (hB : Try.prog.bytesOf e = B)
  (h : DataW.Trod enc Try.prog W 0 (fun _ => true) true t (.slice a len cap) d ps) : len * B ≤ 140737488351232 := by
 obtain ⟨fuel, hf⟩ := h
 rcases Deep.open_slice hu hf with ⟨hcs, _⟩ | ⟨a', len', cap', m, n, D, Pl, hcs, _, hl, _, hmm, hx, _⟩
 ·
  replace hcs : [Value.slice a len cap] = [Value.slice none 0 0] := hcs
  injection hcs with hcs
  injection hcs with _ h2 _
  subst h2
  simp
 ·
  replace hcs : [Value.slice a len cap] = [Value.slice (some a') len' cap'] := hcs
  injection hcs with hcs
  injection hcs with _ h2 _
  subst h2
  injection hx with hx _
  rw [hx] at hd
  have z := sized_slice hsz ht hd hu
  rw [hB] at z
  have hrb : reachBytes = 140737488351232 := by decide
  rw [hrb] at z
  simp only [List.length_map, List.length_range] at z
  exact Nat.le_trans (Nat.mul_le_mul_right _ (by omega)) z
theorem qoh {r : Reach} {base : Nat} {t e : TypeId} {n : Nat} {v : Value} (ht : Try.prog.underlying t = some (.array n e)) (h : Value.okWide Try.prog W r base t v) : ∃ cs, v = .agg cs := by
 simp only [Value.okWide, ht] at h
 obtain ⟨cs, h1, _⟩ := h
 exact ⟨cs, h1⟩
theorem qtA {n : Nat} {t : TypeId} (ht : Try.prog.underlying t = some (.array n 3)) {fuel : Nat} {l : List Value} {x : DataW H × List MemPlace} (h : DataW.trod enc Try.prog W 0 (fun _ => true) true fuel t l = some x) :
  l.length = Try.prog.cellsOf t ∧ ∀ i v, i < n → l[i]? = some v → ∃ m, v = .int .i64 m ∧ Wf m := by
 obtain ⟨xs, m, _, _, hl, hxl, hf⟩ := DataW.trod_array ht h
 refine ⟨hl, fun i v hi hv => ?_⟩
 have h1 := hf i hi
 rw [c3, Nat.mul_one] at h1
 obtain ⟨y, e⟩ := qjR (by omega) h1
 obtain ⟨n', q, _, g⟩ := DataW.trod_int Try.underlying3 e
 obtain ⟨hil, hv'⟩ := List.getElem?_eq_some_iff.1 hv
 rw [List.drop_eq_getElem_cons hil, hv'] at q
 injection q with q
 exact ⟨n', q, g⟩
theorem qtz {cs : Array Value} (h : DataW.Trod enc Try.prog W 0 (fun _ => true) true 23 (.agg cs) d ps) : ∃ a b : Int, cs = #[.int .i64 a, .int .i64 b] ∧ Wf a ∧ Wf b := by
 obtain ⟨fuel, hf⟩ := h
 obtain ⟨hl, hat⟩ := qtA Try.underlying23 (show DataW.trod enc Try.prog W 0 (fun _ => true) true fuel 23 cs.toList = some (d, ps) from hf)
 rw [c23] at hl
 obtain ⟨a, b, e⟩ := len2 hl
 rw [e] at hat
 obtain ⟨m0, rfl, g0⟩ := hat 0 _ (by omega) rfl
 obtain ⟨m1, rfl, g1⟩ := hat 1 _ (by omega) rfl
 exact ⟨m0, m1, Array.toList_inj.1 e, g0, g1⟩
end
end Go.Proofs.Ytmhomdohhihlcaa.P
namespace Go.Proofs.Ytmhomdohhihlcaa.P
open Go.RowKit Go.Proofs.YtmhomdohhihlcaaW.PrintWords Go.Proofs.YtmhomdohhihlcaaW.PrintLast Go.Proofs.YtmhomdohhihlcaaW.PrintMore
theorem modP (a b : Int) (hb : 0 < b) (hb2 : b ≤ 4611686018427387904) : qcc.f a b = some (a % b) := by
 unfold qcc.f
 rw [if_neg (by omega)]
 have h1 := Int.tmod_lt_of_pos a hb
 have h2 : Int.tmod a b = a % b ∨ Int.tmod a b = a % b - b := by
  rw [Int.tmod_eq_emod]
  split
  ·
   left; simp
  ·
   right
   have : (b.natAbs : Int) = b := by omega
   rw [this]
 have h3 := Int.emod_nonneg a (by omega : b ≠ 0)
 have h4 := Int.emod_lt_of_pos a hb
 rcases h2 with h2 | h2
 ·
  rw [if_neg (by omega), h2]
 ·
  rw [if_pos (by omega), h2]
  congr 1
  unfold wrap64
  omega
theorem modB (a b : Int) (hb : 0 < b) (hb2 : b ≤ 4611686018427387904) : ∃ m, qcc.f a b = some m ∧ 0 ≤ m ∧ m < b :=
 ⟨a % b, modP a b hb hb2, Int.emod_nonneg a (by omega), Int.emod_lt_of_pos a hb⟩
theorem qpI (l : List Int) (a : Int) (hl : l.length * 8 ≤ 140737488351232) : ∃ p, qcL.f l a = some p := by
 unfold qcL.f
 by_cases h0 : (l.length : Int) = 0
 ·
  exact ⟨0, by rw [if_pos h0]⟩
 ·
  have h1 := Int.emod_nonneg a h0
  have h2 := Int.emod_lt_of_pos a (by omega : (0 : Int) < l.length)
  exact ⟨rd l (a % l.length), by rw [if_neg h0, modP _ _ (by omega) (by omega), Option.bind_some, if_pos h1, if_pos h2]⟩
theorem qmv (lo hi a : Int) (h0 : 0 ≤ lo) (h1 : lo ≤ hi) (h2 : hi ≤ 1000000) : ∃ c, qbX.f lo hi a = some c ∧ lo ≤ c ∧ c ≤ hi := by
 unfold qbX.f
 by_cases h : hi ≤ lo
 ·
  exact ⟨lo, by rw [if_pos h], by omega, by omega⟩
 ·
  have hw : wrap64 (wrap64 (hi - lo) + 1) = hi - lo + 1 := by unfold wrap64; omega
  obtain ⟨m, e, m0, m1⟩ := modB a (hi - lo + 1) (by omega) (by omega)
  have hw2 : wrap64 (lo + m) = lo + m := by unfold wrap64; omega
  exact ⟨lo + m, by rw [if_neg h, hw, if_neg (by omega), e, Option.bind_some, hw2], by omega, by omega⟩
end Go.Proofs.Ytmhomdohhihlcaa.P
namespace Go.Proofs.Ytmhomdohhihlcaa.P
open Go.RowKit Go.Proofs.YtmhomdohhihlcaaW.PrintWords Go.Proofs.YtmhomdohhihlcaaW.PrintLast Go.Proofs.YtmhomdohhihlcaaW.PrintMore
attribute [local go_sem] qb2 qb4 qcg qch qbQ qbR qb3 qb5
end Go.Proofs.Ytmhomdohhihlcaa.P
namespace Go.Proofs.Ytmhomdohhihlcaa.P
open Go.RowKit Go.Proofs.YtmhomdohhihlcaaW.PrintWords Go.Proofs.YtmhomdohhihlcaaW.PrintLast Go.Proofs.YtmhomdohhihlcaaW.PrintMore
attribute [local go_sem] qb2 qb4 qcg qch qbQ qbR qb3 qb5
end Go.Proofs.Ytmhomdohhihlcaa.P
namespace Go.Proofs.Ytmhomdohhihlcaa.P
open Go.RowKit Go.Proofs.YtmhomdohhihlcaaW.PrintWords Go.Proofs.YtmhomdohhihlcaaW.PrintLast Go.Proofs.YtmhomdohhihlcaaW.PrintMore
attribute [local go_sem] qb2 qb4 qcg qch qbQ qbR qb3 qb5
attribute [local go_sem high] qnG
end Go.Proofs.Ytmhomdohhihlcaa.P
namespace Go.Proofs.Ytmhomdohhihlcaa.P
open Go.RowKit Go.Proofs.YtmhomdohhihlcaaW.PrintWords Go.Proofs.YtmhomdohhihlcaaW.PrintLast Go.Proofs.YtmhomdohhihlcaaW.PrintMore
theorem qlm (a b c : Int) : qaD.f a b c = some (wi a b c) := by
 unfold qaD.f wi
 by_cases h : b ≤ a
 ·
  rw [if_pos h]; simp [h]
 ·
  rw [if_neg h]; simp [h]
theorem qhK (a b c : Int) : qba.f a b c = some (wi a b c) := by
 unfold qba.f wi
 by_cases h : b ≤ a
 ·
  rw [if_pos h]; simp [h]
 ·
  rw [if_neg h]; simp [h]
def sp (a b h : Int) : Bool := decide (0 ≤ a ∧ a ≤ b ∧ b ≤ h)
theorem qoq (a b h : Int) : qdt.f a b h = some (sp a b h) := by
 unfold qdt.f sp
 by_cases h1 : 0 ≤ a
 ·
  rw [if_pos h1]
  by_cases h2 : a ≤ b
  ·
   rw [if_pos h2]; simp [h1, h2]
  ·
   rw [if_neg h2]; simp [h2]
 ·
  rw [if_neg h1]; simp [h1]
theorem rd68 (l : List S68) (i : Nat) (h : i < l.length) : qaw l (i : Int) = l[i] := by simp [qaw, List.getD_eq_getElem?_getD, List.getElem?_eq_getElem h]
theorem wr1 (i n : Nat) (h : i < n) (hn : (n : Int) ≤ 9223372036854775807) : wrap64 ((i : Int) + 1) = ((i + 1 : Nat) : Int) := by unfold wrap64; omega
def vS (x : S68) : Bool := wi x.f0 0 10000 && sp x.f1.f0 x.f1.f1 20
def agL (a1 a2 : Int) : List S68 → Int → Int → Int × Int
 | [], s, t => (s, t)
 | x :: xs, s, t => agL a1 a2 xs (if a1 ≤ x.f1.f0 ∧ x.f1.f1 ≤ a2 then wrap64 (s + x.f0) else s) (if a1 ≤ x.f1.f1 ∧ x.f1.f0 ≤ a2 then wrap64 (t + x.f0) else t)
def qjY (a1 a2 : Int) (l : List S68) (b : Bool) : Int × Int × Int :=
 if b = true then (if (wi a1 0 20 && wi a2 a1 20) = true then ((agL a1 a2 l 0 0).1, (agL a1 a2 l 0 0).2, 0) else (0, 0, 7)) else (0, 0, 90)
section
variable (l : List S68) (a1 a2 : Int) (hn : l.length ≤ 9223372036854775807)
include hn
theorem qpO : ∀ (d i : Nat) (s t : Int), i + d = l.length → Ev (fun k => qaL.l1 k a1 a2 l (l.length : Int) (i : Int) s t) ((agL a1 a2 (l.drop i) s t).1, (agL a1 a2 (l.drop i) s t).2, 0) := by
 intro d
 induction d with
 | zero =>
  intro i s t hi
  refine Ev.step (f := fun _ => some (s, t, 0)) (fun k => ?_) ?_
  ·
   simp only [qaL.l1]
   rw [if_neg (by omega)]
  ·
   rw [List.drop_eq_nil_of_le (by omega)]
   exact Ev.now _
 | succ d ih =>
  intro i s t hi
  have hlt : i < l.length := by omega
  rw [List.drop_eq_getElem_cons hlt]
  have hw := wr1 i l.length hlt (by omega)
  refine Ev.step (f := fun k => qaL.j3 k a1 a2 l (l.length : Int) (i : Int) (decide (a1 ≤ l[i].f1.f0 ∧ l[i].f1.f1 ≤ a2)) s t l[i].f0 l[i].f1.f0 l[i].f1.f1) (fun k => ?_) ?_
  ·
   simp only [qaL.l1, rd68 l i hlt]
   rw [if_pos (by omega), if_pos (by omega), if_pos (by omega)]
   by_cases h1 : a1 ≤ l[i].f1.f0
   ·
    rw [if_pos h1]
    simp [h1]
   ·
    rw [if_neg h1]
    simp [h1]
  ·
   refine Ev.step (f := fun k => qaL.l1 k a1 a2 l (l.length : Int) ((i + 1 : Nat) : Int) (if a1 ≤ l[i].f1.f0 ∧ l[i].f1.f1 ≤ a2 then wrap64 (s + l[i].f0) else s) (if a1 ≤ l[i].f1.f1 ∧ l[i].f1.f0 ≤ a2 then wrap64 (t + l[i].f0) else t)) (fun k => ?_) (ih (i + 1) _ _ (by omega))
   simp only [qaL.j3, hw]
   by_cases h1 : a1 ≤ l[i].f1.f0 ∧ l[i].f1.f1 ≤ a2 <;> by_cases h2 : a1 ≤ l[i].f1.f1 <;> by_cases h3 : l[i].f1.f0 ≤ a2 <;> simp [h1, h2, h3]
theorem qqN : ∀ (d i : Nat) (b : Bool), i + d = l.length → Ev (fun k => qaL.l0 k l a1 a2 b l (l.length : Int) (i : Int)) (qjY a1 a2 l (b && (l.drop i).all vS)) := by
 intro d
 induction d with
 | zero =>
  intro i b hi
  rw [List.drop_eq_nil_of_le (by omega), List.all_nil, Bool.and_true]
  cases b with
  | false =>
   refine Ev.step (f := fun _ => some (0, 0, 90)) (fun k => ?_) (Ev.now _)
   simp only [qaL.l0]
   rw [if_neg (by omega), if_neg (by decide)]
  | true =>
   refine Ev.step (f := fun k => qaL.j1 k l a1 a2 (!(wi a1 0 20 && wi a2 a1 20))) (fun k => ?_) ?_
   ·
    simp only [qaL.l0, qlm, Option.bind_some]; rw [if_neg (by omega), if_pos trivial]
    cases wi a1 0 20 <;> simp
   ·
    unfold qjY; rw [if_pos rfl]
    cases hq : (wi a1 0 20 && wi a2 a1 20) with
    | true =>
     refine Ev.step (f := fun k => qaL.l1 k a1 a2 l (l.length : Int) ((0 : Nat) : Int) 0 0) (fun k => ?_) (qpO l a1 a2 hn l.length 0 0 0 (by omega))
     simp [qaL.j1]
    | false =>
     refine Ev.step (f := fun _ => some (0, 0, 7)) (fun k => ?_) (Ev.now _)
     simp [qaL.j1]
 | succ d ih =>
  intro i b hi
  have hlt : i < l.length := by omega
  have hw := wr1 i l.length hlt (by omega)
  rw [List.drop_eq_getElem_cons hlt, List.all_cons, ← Bool.and_assoc]
  refine Ev.step (f := fun k => qaL.l0 k l a1 a2 (b && vS l[i]) l (l.length : Int) ((i + 1 : Nat) : Int)) (fun k => ?_) (ih (i + 1) _ (by omega))
  simp only [qaL.l0, qlm, qoq, Option.bind_some, rd68 l i hlt, hw]
  rw [if_pos (by omega), if_pos (by omega), if_pos (by omega)]
  cases b with
  | false => simp
  | true =>
   cases hq : wi l[i].f0 0 10000 <;> simp [vS, hq]
end
theorem qkd (l : List S68) (a1 a2 : Int) (hn : l.length ≤ 9223372036854775807) : Ev (fun k => qaL.f k l a1 a2) (qjY a1 a2 l (decide ((l.length : Int) ≤ 20) && l.all vS)) := qqN l a1 a2 hn l.length 0 _ (by omega)
end Go.Proofs.Ytmhomdohhihlcaa.P
namespace Go.Proofs.Ytmhomdohhihlcaa.P
open Go.RowKit Go.Proofs.YtmhomdohhihlcaaW.PrintWords Go.Proofs.YtmhomdohhihlcaaW.PrintLast Go.Proofs.YtmhomdohhihlcaaW.PrintMore
theorem w64 {z : Int} (h0 : -1000000000 ≤ z) (h1 : z ≤ 1000000000) : wrap64 z = z := by unfold wrap64; omega
theorem wA {a b : Int} (a0 : 0 ≤ a) (a1 : a ≤ 200000) (b0 : 0 ≤ b) (b1 : b ≤ 10000) : wrap64 (a + b) = a + b := by unfold wrap64; omega
theorem wS {a b : Int} (a0 : 0 ≤ a) (a1 : a ≤ 10000) (b0 : 0 ≤ b) (b1 : b < a + 1) : wrap64 (a - b) = a - b ∧ 0 ≤ a - b ∧ a - b ≤ 10000 := by refine ⟨?_, by omega, by omega⟩; unfold wrap64; omega
theorem p1S {a : Int} (a0 : 0 ≤ a) (a1 : a ≤ 10000) : 0 < a + 1 ∧ a + 1 ≤ 4611686018427387904 := by omega
theorem wi_b {a b c : Int} : wi a b c = decide (b ≤ a ∧ a ≤ c) := rfl
theorem qpR {f u lo hi c1 c2 one s le tr mo tr1 tr2 le1 mo1 M : Int} (s0 : 0 ≤ s) (s1 : s ≤ 10000) (o0 : 0 ≤ one) (o1 : one < s + 1) (c10 : lo ≤ c1) (c11 : c1 ≤ hi) (c20 : lo ≤ c2) (c21 : c2 ≤ hi) (b0 : 0 ≤ le) (b1 : le ≤ tr) (b2 : tr ≤ mo) (b3 : mo ≤ M)
  (t1 : (f ≤ c1 ∧ c1 ≤ u ∧ tr1 = tr + one) ∨ (¬(f ≤ c1 ∧ c1 ≤ u) ∧ tr1 = tr)) (t2 : (f ≤ c2 ∧ c2 ≤ u ∧ tr2 = tr1 + (s - one)) ∨ (¬(f ≤ c2 ∧ c2 ≤ u) ∧ tr2 = tr1))
  (tl : (f ≤ lo ∧ hi ≤ u ∧ le1 = le + s) ∨ (¬(f ≤ lo ∧ hi ≤ u) ∧ le1 = le)) (tm : (f ≤ hi ∧ lo ≤ u ∧ mo1 = mo + s) ∨ (¬(f ≤ hi ∧ lo ≤ u) ∧ mo1 = mo)) :
  0 ≤ le1 ∧ le1 ≤ tr2 ∧ tr2 ≤ mo1 ∧ mo1 ≤ M + 10000 := by
 have h1 : tr ≤ tr1 ∧ tr1 ≤ tr + one := by rcases t1 with ⟨_, _, e⟩ | ⟨_, e⟩ <;> omega
 have h2 : tr1 ≤ tr2 ∧ tr2 ≤ tr1 + (s - one) := by rcases t2 with ⟨_, _, e⟩ | ⟨_, e⟩ <;> omega
 have h3 : 0 ≤ le1 ∧ le1 ≤ tr2 := by
  rcases tl with ⟨x0, x1, e⟩ | ⟨_, e⟩
  ·
   rcases t1 with ⟨_, _, e1⟩ | ⟨n1, _⟩
   ·
    rcases t2 with ⟨_, _, e2⟩ | ⟨n2, _⟩
    ·
     clear tm; omega
    ·
     exact absurd ⟨Int.le_trans x0 c20, Int.le_trans c21 x1⟩ n2
   ·
    exact absurd ⟨Int.le_trans x0 c10, Int.le_trans c11 x1⟩ n1
  ·
   clear t1 t2 tm; omega
 have h4 : tr2 ≤ mo1 ∧ mo1 ≤ M + 10000 := by
  rcases tm with ⟨x0, x1, e⟩ | ⟨n, e⟩
  ·
   clear t1 t2 tl; omega
  ·
   rcases t1 with ⟨y0, y1, _⟩ | ⟨_, e1⟩
   ·
    exact absurd ⟨Int.le_trans y0 c11, Int.le_trans c10 y1⟩ n
   ·
    rcases t2 with ⟨y0, y1, _⟩ | ⟨_, e2⟩
    ·
     exact absurd ⟨Int.le_trans y0 c21, Int.le_trans c20 y1⟩ n
    ·
     clear tl n; omega
 exact ⟨h3.1, h3.2, h4.1, h4.2⟩
section
variable (l : List S68) (b : List Int) (hb : b.length * 8 ≤ 140737488351232) (hn : l.length ≤ 20) (hv : l.all vS = true) (f u S T : Int) (hf : 0 ≤ f) (hfu : f ≤ u) (hu : u ≤ 20)
include hb hn hv hf hfu hu
theorem qpQ : ∀ (d i : Nat) (al tr le mo : Int), i + d = l.length → 0 ≤ al → al ≤ 10000 * (i : Int) → 0 ≤ le → le ≤ tr → tr ≤ mo → mo ≤ 10000 * (i : Int) → agL f u (l.drop i) le mo = (S, T) → agL 0 20 (l.drop i) al al = agL 0 20 l 0 0 →
  Ev (fun k => qak.l0 k l b f u al tr le mo (i : Int) S T) true := by
 intro d
 induction d with
 | zero =>
  intro i al tr le mo hi a0 a1 b0 b1 b2 b3 hST hW
  rw [List.drop_eq_nil_of_le (by omega)] at hST hW
  simp only [agL, Prod.mk.injEq] at hST hW
  obtain ⟨rfl, rfl⟩ := hST
  have hA := qkd l 0 20 (by omega)
  have hok : (decide ((l.length : Int) ≤ 20) && l.all vS) = true := by rw [hv, Bool.and_true]; exact decide_eq_true (by omega)
  have e0 : qjY 0 20 l true = (al, al, 0) := by
   unfold qjY
   rw [if_pos rfl, if_pos (by decide), ← hW]
  rw [hok, e0] at hA
  refine Ev.step (f := fun k => (qaL.f k l 0 20).bind fun qj2 => (if qj2.2.2 = 0 then ((qaK.f al al).bind fun qi0 => (if (qj2.1 == qi0.1 && (qj2.2.1 == qi0.2)) = true then ((qc0.f le mo tr).bind fun t721 => (if t721 = true then ((qaK.f le mo).bind fun qfw => (if (le == qfw.1 && (mo == qfw.2)) = true then ((qcb.f).bind fun t724 => (some t724)) else (some false))) else (some false))) else (some false))) else (some false))) (fun k => ?_) ?_
  ·
   simp only [qak.l0]
   rw [if_neg (by omega)]
  ·
   refine Ev.bind hA ?_
   refine Ev.congr (f := fun _ => some true) (fun k => ?_) (Ev.now _)
   have h1 : wi tr le mo = true := by rw [wi_b]; exact decide_eq_true ⟨b1, b2⟩
   simp [qaK.f, qc0.f, qhK, h1, qcb.f]
 | succ d ih =>
  intro i al tr le mo hi a0 a1 b0 b1 b2 b3 hST hW
  have hlt : i < l.length := by omega
  have hi20 : (i : Int) ≤ 20 := by omega
  have B0 : mo ≤ 200000 := by omega
  have B1 : al ≤ 200000 := by omega
  have hw := wr1 i l.length hlt (by omega)
  have g1 : (0 : Int) ≤ (i : Int) := Int.natCast_nonneg i
  have g2 : (i : Int) < (l.length : Int) := Int.ofNat_lt.2 hlt
  rw [List.drop_eq_getElem_cons hlt] at hST hW
  have hx := List.all_eq_true.1 hv l[i] (List.getElem_mem hlt)
  have hr := rd68 l i hlt
  obtain ⟨x, hxe⟩ : ∃ x, l[i] = x := ⟨_, rfl⟩
  rw [hxe] at hx hr hST hW
  simp only [vS, sp, wi_b, Bool.and_eq_true, decide_eq_true_eq] at hx
  obtain ⟨⟨x0, x1⟩, x2, x3, x4⟩ := hx
  simp only [agL] at hST hW
  have q1 : (0 : Int) ≤ x.f1.f0 ∧ x.f1.f1 ≤ 20 := ⟨x2, x4⟩
  have q2 : (0 : Int) ≤ x.f1.f1 ∧ x.f1.f0 ≤ 20 := ⟨Int.le_trans x2 x3, Int.le_trans x3 x4⟩
  rw [if_pos q1, if_pos q2] at hW
  have eal : wrap64 (al + x.f0) = al + x.f0 := wA a0 B1 x0 x1
  rw [eal] at hW
  obtain ⟨p0, e0⟩ := qpI b (i : Int) hb
  obtain ⟨p1, e1⟩ := qpI b (wrap64 ((i : Int) + 1)) hb
  obtain ⟨p2, e2⟩ := qpI b (wrap64 ((i : Int) + 2)) hb
  have es : wrap64 (x.f0 + 1) = x.f0 + 1 := wA x0 (Int.le_trans x1 (by decide)) (by decide) (by decide)
  obtain ⟨one, eo, o0, o1⟩ := modB p0 (x.f0 + 1) (p1S x0 x1).1 (p1S x0 x1).2
  obtain ⟨c1, ec1, c10, c11⟩ := qmv x.f1.f0 x.f1.f1 p1 x2 x3 (Int.le_trans x4 (by decide))
  obtain ⟨c2, ec2, c20, c21⟩ := qmv x.f1.f0 x.f1.f1 p2 x2 x3 (Int.le_trans x4 (by decide))
  have l0 : 0 ≤ tr := Int.le_trans b0 b1
  have l1 : tr ≤ 200000 := Int.le_trans b2 B0
  have o2 : one ≤ 10000 := Int.le_trans (Int.lt_add_one_iff.1 o1) x1
  have etr : wrap64 (tr + one) = tr + one := wA l0 l1 o0 o2
  refine Ev.step (f := fun k => qak.j2 k l b f u (al + x.f0) (if f ≤ c1 ∧ c1 ≤ u then tr + one else tr) le mo (i : Int) one S T) (fun k => ?_) ?_
  ·
   simp only [qak.l0]
   rw [if_pos g2, if_pos g1, e0, Option.bind_some, hr, es, eo, Option.bind_some, e1, Option.bind_some, ec1, Option.bind_some, qhK, Option.bind_some, eal, wi_b]
   rw [etr]
   by_cases h : f ≤ c1 ∧ c1 ≤ u
   ·
    rw [if_pos h, if_pos (decide_eq_true h)]
   ·
    rw [if_neg h, if_neg (by simp [h])]
  obtain ⟨tr1, ht1⟩ : ∃ z, (if f ≤ c1 ∧ c1 ≤ u then tr + one else tr) = z := ⟨_, rfl⟩
  rw [ht1]
  have t1 : (f ≤ c1 ∧ c1 ≤ u ∧ tr1 = tr + one) ∨ (¬(f ≤ c1 ∧ c1 ≤ u) ∧ tr1 = tr) := by
   by_cases h : f ≤ c1 ∧ c1 ≤ u
   ·
    rw [if_pos h] at ht1; exact .inl ⟨h.1, h.2, ht1.symm⟩
   ·
    rw [if_neg h] at ht1; exact .inr ⟨h, ht1.symm⟩
  have q1 : wrap64 (x.f0 - one) = x.f0 - one := (wS x0 x1 o0 o1).1
  have l2 : 0 ≤ tr1 ∧ tr1 ≤ 210000 := by clear a0 a1 B0 B1 hi hi20 b0 b1 b2 b3 hn; rcases t1 with ⟨_, _, e⟩ | ⟨_, e⟩ <;> omega
  have q2 : wrap64 (tr1 + (x.f0 - one)) = tr1 + (x.f0 - one) := w64 (by have := (wS x0 x1 o0 o1).2; clear t1 a0 a1 B0 B1 hi hi20 b0 b1 b2 b3 hn; omega) (by have := (wS x0 x1 o0 o1).2; clear t1 a0 a1 B0 B1 hi hi20 b0 b1 b2 b3 hn; omega)
  refine Ev.step (f := fun k => qak.j3 k l b f u (al + x.f0) (if f ≤ c2 ∧ c2 ≤ u then tr1 + (x.f0 - one) else tr1) le mo (i : Int) S T) (fun k => ?_) ?_
  ·
   simp only [qak.j2]
   rw [if_pos g1, if_pos g2, e2, Option.bind_some, hr, ec2, Option.bind_some, qhK, Option.bind_some, wi_b]
   rw [q1, q2]
   by_cases h : f ≤ c2 ∧ c2 ≤ u
   ·
    rw [if_pos h, if_pos (decide_eq_true h)]
   ·
    rw [if_neg h, if_neg (by simp [h])]
  obtain ⟨tr2, ht2⟩ : ∃ z, (if f ≤ c2 ∧ c2 ≤ u then tr1 + (x.f0 - one) else tr1) = z := ⟨_, rfl⟩
  rw [ht2]
  have t2 : (f ≤ c2 ∧ c2 ≤ u ∧ tr2 = tr1 + (x.f0 - one)) ∨ (¬(f ≤ c2 ∧ c2 ≤ u) ∧ tr2 = tr1) := by
   by_cases h : f ≤ c2 ∧ c2 ≤ u
   ·
    rw [if_pos h] at ht2; exact .inl ⟨h.1, h.2, ht2.symm⟩
   ·
    rw [if_neg h] at ht2; exact .inr ⟨h, ht2.symm⟩
  refine Ev.step (f := fun k => qak.j4 k l b f u (al + x.f0) tr2 le mo (i : Int) (decide (f ≤ x.f1.f0 ∧ x.f1.f1 ≤ u)) S T) (fun k => ?_) ?_
  ·
   simp only [qak.j3]
   rw [if_pos g1, if_pos g2, hr, qhK, Option.bind_some, wi_b]
   by_cases h : f ≤ x.f1.f0 ∧ x.f1.f0 ≤ u
   ·
    rw [if_pos (decide_eq_true h), qhK, Option.bind_some, wi_b]
    have : decide (f ≤ x.f1.f1 ∧ x.f1.f1 ≤ u) = decide (f ≤ x.f1.f0 ∧ x.f1.f1 ≤ u) := by rw [decide_eq_decide]; clear t1 t2 a0 a1 B0 B1 hi hi20 b0 b1 b2 b3 hn; omega
    rw [this]
   ·
    rw [if_neg (by simp [h])]; have : decide (f ≤ x.f1.f0 ∧ x.f1.f1 ≤ u) = false := decide_eq_false (by clear t1 t2 a0 a1 B0 B1 hi hi20 b0 b1 b2 b3 hn; omega); rw [this]
  obtain ⟨le1, hl1⟩ : ∃ z, (if f ≤ x.f1.f0 ∧ x.f1.f1 ≤ u then wrap64 (le + x.f0) else le) = z := ⟨_, rfl⟩
  obtain ⟨mo1, hm1⟩ : ∃ z, (if f ≤ x.f1.f1 ∧ x.f1.f0 ≤ u then wrap64 (mo + x.f0) else mo) = z := ⟨_, rfl⟩
  rw [hl1, hm1] at hST
  have wl : wrap64 (le + x.f0) = le + x.f0 := wA b0 (Int.le_trans b1 l1) x0 x1
  have wm : wrap64 (mo + x.f0) = mo + x.f0 := wA (Int.le_trans l0 b2) B0 x0 x1
  refine Ev.step (f := fun k => qak.j5 k l b f u (al + x.f0) tr2 le1 mo (i : Int) S T) (fun k => ?_) ?_
  ·
   simp only [qak.j4]
   rw [if_pos g1, if_pos g2, hr, ← hl1]
   by_cases h : f ≤ x.f1.f0 ∧ x.f1.f1 ≤ u
   ·
    rw [if_pos h, if_pos (decide_eq_true h)]
   ·
    rw [if_neg h, if_neg (by simp [h])]
  refine Ev.step (f := fun k => qak.l0 k l b f u (al + x.f0) tr2 le1 mo1 ((i + 1 : Nat) : Int) S T) (fun k => ?_) ?_
  ·
   clear t1 t2 a0 a1 B0 B1 hi hi20 b0 b1 b2 b3 hn
   simp only [qak.j5]
   rw [if_pos g1, if_pos g2, hr, qhK, Option.bind_some, hw, qhK, Option.bind_some, ← hm1, wi_b, wi_b]
   by_cases h1 : f ≤ x.f1.f0 ∧ x.f1.f0 ≤ u
   ·
    rw [if_pos (decide_eq_true h1), if_pos (by omega)]
   ·
    rw [if_neg (by simp [h1])]
    by_cases h2 : f ≤ x.f1.f1 ∧ x.f1.f1 ≤ u
    ·
     rw [if_pos (decide_eq_true h2), if_pos (by omega)]
    ·
     rw [if_neg (by simp [h2])]
     by_cases h3 : x.f1.f0 < f
     ·
      rw [if_pos h3]
      by_cases h4 : x.f1.f1 > u
      ·
       rw [if_pos h4, if_pos (by omega)]
      ·
       rw [if_neg h4, if_neg (by omega)]
     ·
      rw [if_neg h3, if_neg (by omega)]
  have tl : (f ≤ x.f1.f0 ∧ x.f1.f1 ≤ u ∧ le1 = le + x.f0) ∨ (¬(f ≤ x.f1.f0 ∧ x.f1.f1 ≤ u) ∧ le1 = le) := by
   by_cases h : f ≤ x.f1.f0 ∧ x.f1.f1 ≤ u
   ·
    rw [if_pos h, wl] at hl1; exact .inl ⟨h.1, h.2, hl1.symm⟩
   ·
    rw [if_neg h] at hl1; exact .inr ⟨h, hl1.symm⟩
  have tm : (f ≤ x.f1.f1 ∧ x.f1.f0 ≤ u ∧ mo1 = mo + x.f0) ∨ (¬(f ≤ x.f1.f1 ∧ x.f1.f0 ≤ u) ∧ mo1 = mo) := by
   by_cases h : f ≤ x.f1.f1 ∧ x.f1.f0 ≤ u
   ·
    rw [if_pos h, wm] at hm1; exact .inl ⟨h.1, h.2, hm1.symm⟩
   ·
    rw [if_neg h] at hm1; exact .inr ⟨h, hm1.symm⟩
  obtain ⟨z0, z1, z2, z3⟩ := qpR x0 x1 o0 o1 c10 c11 c20 c21 b0 b1 b2 b3 t1 t2 tl tm
  clear t1 t2 tl tm
  have e0' : 10000 * ((i + 1 : Nat) : Int) = 10000 * (i : Int) + 10000 := by rw [Int.natCast_succ, Int.mul_add]; rfl
  exact ih (i + 1) _ _ _ _ (by clear hn; omega) (Int.add_nonneg a0 x0) (by rw [e0']; exact Int.add_le_add a1 x1) z0 z1 z2 (by rw [e0']; exact z3) hST hW
end
theorem StockTruth (l : List S68) (a0 a1 : Int) (b : List Int) (hl : l.length * 24 ≤ 140737488351232) (hp : ∀ x ∈ l, W68 x) (h0 : Wf a0) (h1 : Wf a1) (hb : b.length * 8 ≤ 140737488351232) (hbp : ∀ x ∈ b, Wf x) : ∃ k, qak.f k l a0 a1 b = some true := by
 obtain ⟨f, ef, f0, f1⟩ := modB a0 21 (by decide) (by decide)
 obtain ⟨u, eu, u0, u1⟩ := qmv f 20 a1 f0 (by omega) (by decide)
 refine Ev.rounds ?_
 refine Ev.congr (f := fun k => (qaL.f k l f u).bind fun qcY => (if qcY.2.2 = 0 then (qak.j0 k l b f u qcY.2.2 (decide ((l.length : Int) > 20)) qcY.1 qcY.2.1) else (qak.j0 k l b f u qcY.2.2 true qcY.1 qcY.2.1))) (fun k => ?_) ?_
 ·
  simp only [qak.f]
  rw [ef, Option.bind_some, eu, Option.bind_some]
 refine Ev.bind (qkd l f u (by omega)) ?_
 cases hok : (decide ((l.length : Int) ≤ 20) && l.all vS) with
 | false =>
  refine Ev.step (f := fun _ => some true) (fun k => ?_) (Ev.now _)
  simp [qjY, qak.j0, qcb.f]
 | true =>
  rw [Bool.and_eq_true, decide_eq_true_eq] at hok
  have e1 : wi f 0 20 = true := by rw [wi_b]; exact decide_eq_true ⟨f0, by omega⟩
  have e2 : wi u f 20 = true := by rw [wi_b]; exact decide_eq_true ⟨u0, u1⟩
  refine Ev.step (f := fun k => qak.l0 k l b f u 0 0 0 0 ((0 : Nat) : Int) (agL f u l 0 0).1 (agL f u l 0 0).2) (fun k => ?_) ?_
  ·
   have : decide ((l.length : Int) > 20) = false := decide_eq_false (by omega)
   simp [qjY, qak.j0, e1, e2, this]
  ·
   exact qpQ l b hb (by omega) hok.2 f u _ _ f0 u0 u1 l.length 0 0 0 0 0 (by omega) (by decide) (by simp) (by decide) (by decide) (by decide) (by simp) rfl rfl
end Go.Proofs.Ytmhomdohhihlcaa.P
