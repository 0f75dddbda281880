/- What the statement StockAges leans on, part 6 of 6: contracts of the program's functions; conditions: none. -/
import Derived.Deep.RegionHeld3
import Derived.Deep.Slices
import Derived.ChangeSame
import Derived.OpenShut
import Derived.SizedLaws
import Derived.Lib.SmallJoins
import Derived.Test.YtmhomdohhihlcaaStockAgesx0
import Derived.Test.YtmhomdohhihlcaaStockAgesx1
import Derived.Test.YtmhomdohhihlcaaStockAgesx2
import Derived.Test.YtmhomdohhihlcaaStockAgesx3
import Derived.Test.YtmhomdohhihlcaaStockAgesx4
set_option linter.unusedVariables false
set_option linter.unusedSimpArgs false
set_option linter.constructorNameAsVariable false
namespace Go.Proofs.Ytmhomdohhihlcaa.P
open Go.RowKit Go.Proofs.YtmhomdohhihlcaaW.PrintWords Go.Proofs.YtmhomdohhihlcaaW.PrintLast Go.Proofs.YtmhomdohhihlcaaW.PrintMore
attribute [local go_sem] qb7 qb6 qcr qcq qbR qbS qb8 qb4
def qdX.f  : Option ((List (S39)) × List Int × (List (List (List Int)))) := (qdp.f).bind fun qhh => ((qdN.f).bind fun qfe => (some ((([(⟨qhh.1, qhh.2.1, qhh.2.2.1, qhh.2.2.2.1, qhh.2.2.2.2⟩ : S39), (⟨qfe.1, qfe.2.1, qfe.2.2.1, qfe.2.2.2.1, qfe.2.2.2.2⟩ : S39)] : List (S39))), (([40, 80] : List Int)), (([(([(([90, 80] : List Int)), (([10, 10] : List Int))] : List (List Int))), (([(([0, 0] : List Int)), (([0, 0] : List Int))] : List (List Int)))] : List (List (List Int)))))))
set_option maxHeartbeats 8000000 in
set_option maxRecDepth 100000 in
theorem qdX.calls  (r1 : List (S39)) (r2 : List Int) (r3 : List (List (List Int))) (w : World) (h : qdX.f  = some (r1, r2, r3)) :
  Calls Try.prog 58 #[] w fun e w' => ∃ v0_ v1_ v2_ : Value, e = .returned (.agg #[v0_, v1_, v2_]) ∧ Kd.N k39 39 w' w.heap.size (fun k_ => (w.heap.size ≤ k_) ∧ some k_ ≠ (v1_ : Value).ownBlock ∧ some k_ ≠ (v2_ : Value).ownBlock) v0_ r1 ∧ Kd.R (Kd.int .i64) 3 w' w.heap.size (fun k_ => (w.heap.size ≤ k_)) v1_ r2 ∧ Kd.N (Kd.slice 37 (Kd.slice 3 (Kd.int .i64))) 63 w' w.heap.size (fun k_ => (w.heap.size ≤ k_) ∧ some k_ ≠ (v0_ : Value).ownBlock ∧ some k_ ≠ (v1_ : Value).ownBlock) v2_ r3 ∧ Below w.heap.size w w' := by
 have hu47 := Try.underlying47
 have HB := qaa.mk (Below.refl w.heap.size w)
 have H : ((qdp.f).bind fun qhh => ((qdN.f).bind fun qfe => (some ((([(⟨qhh.1, qhh.2.1, qhh.2.2.1, qhh.2.2.2.1, qhh.2.2.2.2⟩ : S39), (⟨qfe.1, qfe.2.1, qfe.2.2.1, qfe.2.2.2.1, qfe.2.2.2.2⟩ : S39)] : List (S39))), (([40, 80] : List Int)), (([(([(([90, 80] : List Int)), (([10, 10] : List Int))] : List (List Int))), (([(([0, 0] : List Int)), (([0, 0] : List Int))] : List (List Int)))] : List (List (List Int)))))))) = some (r1, r2, r3) := h
 clear h
 replace H := Option.bind_eq_some_iff.mp H
 obtain ⟨⟨t259, t262, t265, t268, t269⟩, A10, H⟩ := H
 replace H : ((qdN.f).bind fun qfe => (some ((([(⟨t259, t262, t265, t268, t269⟩ : S39), (⟨qfe.1, qfe.2.1, qfe.2.2.1, qfe.2.2.2.1, qfe.2.2.2.2⟩ : S39)] : List (S39))), (([40, 80] : List Int)), (([(([(([90, 80] : List Int)), (([10, 10] : List Int))] : List (List Int))), (([(([0, 0] : List Int)), (([0, 0] : List Int))] : List (List Int)))] : List (List (List Int))))))) = some (r1, r2, r3) := H
 have A1 := qaa.mk A10
 clear A10
 replace H := Option.bind_eq_some_iff.mp H
 obtain ⟨⟨t270, t273, t276, t279, t280⟩, A20, H⟩ := H
 replace H : (some ((([(⟨t259, t262, t265, t268, t269⟩ : S39), (⟨t270, t273, t276, t279, t280⟩ : S39)] : List (S39))), (([40, 80] : List Int)), (([(([(([90, 80] : List Int)), (([10, 10] : List Int))] : List (List Int))), (([(([0, 0] : List Int)), (([0, 0] : List Int))] : List (List Int)))] : List (List (List Int)))))) = some (r1, r2, r3) := H
 have A2 := qaa.mk A20
 clear A20
 obtain ⟨y281, qlA⟩ : ∃ y_ : List (S39), y_ = (([(⟨t259, t262, t265, t268, t269⟩ : S39), (⟨t270, t273, t276, t279, t280⟩ : S39)] : List (S39))) := ⟨_, rfl⟩
 replace H : (some (y281, (([40, 80] : List Int)), (([(([(([90, 80] : List Int)), (([10, 10] : List Int))] : List (List Int))), (([(([0, 0] : List Int)), (([0, 0] : List Int))] : List (List Int)))] : List (List (List Int)))))) = some (r1, r2, r3) := by first | (rw [qlA]; with_reducible exact H) | (have H2_ := (Option.bind_some _ _).symm.trans H; rw [qlA]; with_reducible exact H2_) | (have H2_ := (Option.bind_some _ _).symm.trans H; with_reducible exact H2_) | with_reducible exact H | (rw [qlA]; exact H) | exact H
 have qqV := qaa.mk qlA
 clear qlA
 obtain ⟨y284, qlB⟩ : ∃ y_ : List Int, y_ = (([40, 80] : List Int)) := ⟨_, rfl⟩
 replace H : (some (y281, y284, (([(([(([90, 80] : List Int)), (([10, 10] : List Int))] : List (List Int))), (([(([0, 0] : List Int)), (([0, 0] : List Int))] : List (List Int)))] : List (List (List Int)))))) = some (r1, r2, r3) := by first | (rw [qlB]; with_reducible exact H) | (have H2_ := (Option.bind_some _ _).symm.trans H; rw [qlB]; with_reducible exact H2_) | (have H2_ := (Option.bind_some _ _).symm.trans H; with_reducible exact H2_) | with_reducible exact H | (rw [qlB]; exact H) | exact H
 have qqW := qaa.mk qlB
 clear qlB
 obtain ⟨y287, qlC⟩ : ∃ y_ : List Int, y_ = (([90, 80] : List Int)) := ⟨_, rfl⟩
 replace H : (some (y281, y284, (([(([y287, (([10, 10] : List Int))] : List (List Int))), (([(([0, 0] : List Int)), (([0, 0] : List Int))] : List (List Int)))] : List (List (List Int)))))) = some (r1, r2, r3) := by first | (rw [qlC]; with_reducible exact H) | (have H2_ := (Option.bind_some _ _).symm.trans H; rw [qlC]; with_reducible exact H2_) | (have H2_ := (Option.bind_some _ _).symm.trans H; with_reducible exact H2_) | with_reducible exact H | (rw [qlC]; exact H) | exact H
 have qqX := qaa.mk qlC
 clear qlC
 obtain ⟨y290, qlD⟩ : ∃ y_ : List Int, y_ = (([10, 10] : List Int)) := ⟨_, rfl⟩
 replace H : (some (y281, y284, (([(([y287, y290] : List (List Int))), (([(([0, 0] : List Int)), (([0, 0] : List Int))] : List (List Int)))] : List (List (List Int)))))) = some (r1, r2, r3) := by first | (rw [qlD]; with_reducible exact H) | (have H2_ := (Option.bind_some _ _).symm.trans H; rw [qlD]; with_reducible exact H2_) | (have H2_ := (Option.bind_some _ _).symm.trans H; with_reducible exact H2_) | with_reducible exact H | (rw [qlD]; exact H) | exact H
 have qqY := qaa.mk qlD
 clear qlD
 obtain ⟨y293, qlE⟩ : ∃ y_ : List (List Int), y_ = (([y287, y290] : List (List Int))) := ⟨_, rfl⟩
 replace H : (some (y281, y284, (([y293, (([(([0, 0] : List Int)), (([0, 0] : List Int))] : List (List Int)))] : List (List (List Int)))))) = some (r1, r2, r3) := by first | (rw [qlE]; with_reducible exact H) | (have H2_ := (Option.bind_some _ _).symm.trans H; rw [qlE]; with_reducible exact H2_) | (have H2_ := (Option.bind_some _ _).symm.trans H; with_reducible exact H2_) | with_reducible exact H | (rw [qlE]; exact H) | exact H
 have qqZ := qaa.mk qlE
 clear qlE
 obtain ⟨y296, qlF⟩ : ∃ y_ : List Int, y_ = (([0, 0] : List Int)) := ⟨_, rfl⟩
 replace H : (some (y281, y284, (([y293, (([y296, (([0, 0] : List Int))] : List (List Int)))] : List (List (List Int)))))) = some (r1, r2, r3) := by first | (rw [qlF]; with_reducible exact H) | (have H2_ := (Option.bind_some _ _).symm.trans H; rw [qlF]; with_reducible exact H2_) | (have H2_ := (Option.bind_some _ _).symm.trans H; with_reducible exact H2_) | with_reducible exact H | (rw [qlF]; exact H) | exact H
 have qq0 := qaa.mk qlF
 clear qlF
 obtain ⟨y299, qlG⟩ : ∃ y_ : List Int, y_ = (([0, 0] : List Int)) := ⟨_, rfl⟩
 replace H : (some (y281, y284, (([y293, (([y296, y299] : List (List Int)))] : List (List (List Int)))))) = some (r1, r2, r3) := by first | (rw [qlG]; with_reducible exact H) | (have H2_ := (Option.bind_some _ _).symm.trans H; rw [qlG]; with_reducible exact H2_) | (have H2_ := (Option.bind_some _ _).symm.trans H; with_reducible exact H2_) | with_reducible exact H | (rw [qlG]; exact H) | exact H
 have qq1 := qaa.mk qlG
 clear qlG
 obtain ⟨y302, qlH⟩ : ∃ y_ : List (List Int), y_ = (([y296, y299] : List (List Int))) := ⟨_, rfl⟩
 replace H : (some (y281, y284, (([y293, y302] : List (List (List Int)))))) = some (r1, r2, r3) := by first | (rw [qlH]; with_reducible exact H) | (have H2_ := (Option.bind_some _ _).symm.trans H; rw [qlH]; with_reducible exact H2_) | (have H2_ := (Option.bind_some _ _).symm.trans H; with_reducible exact H2_) | with_reducible exact H | (rw [qlH]; exact H) | exact H
 have qq2 := qaa.mk qlH
 clear qlH
 obtain ⟨y305, qlI⟩ : ∃ y_ : List (List (List Int)), y_ = (([y293, y302] : List (List (List Int)))) := ⟨_, rfl⟩
 replace H : (some (y281, y284, y305)) = some (r1, r2, r3) := by first | (rw [qlI]; with_reducible exact H) | (have H2_ := (Option.bind_some _ _).symm.trans H; rw [qlI]; with_reducible exact H2_) | (have H2_ := (Option.bind_some _ _).symm.trans H; with_reducible exact H2_) | with_reducible exact H | (rw [qlI]; exact H) | exact H
 have qq3 := qaa.mk qlI
 clear qlI
 simp only [Option.some.injEq, Prod.mk.injEq] at H
 obtain ⟨rfl, rfl, rfl⟩ := H
 go_enter Try.func58, Try.ntmps58
 go_wp2_with (first | ((with_reducible refine qaN (N := 0) rfl ?_); refine qa9 ?hg (N := 0) ?hd (cs := #[.slice none 0 0, .slice none 0 0, .slice none 0 0]) (t := 47) ?hr ?_; (case hd => rfl); (case hg => rfl); (case hr => first | (go_simp; done) | (go_simp; rfl)); intro qbE hg w3 hbox hb; have n0_ := qaa.mk (qar (by repeat (first | (with_reducible first | exact HB.out | apply qaf | apply qad | apply qah) | exact HB.out)) hb); have n1_ := qaa.mk (hbox); have n2_ := qaa.mk ((by rw [hg]; exact (qam (by repeat (first | (with_reducible first | exact HB.out | apply qaf | apply qad | apply qah) | exact HB.out))) : w.heap.size ≤ qbE)); have n3_ := qaa.mk ((by rw [hg]; exact (qam (by repeat (first | (with_reducible first | exact HB.out | apply qaf | apply qad | apply qah) | exact HB.out))) : w.heap.size ≤ qbE)); clear HB; have HB := n0_; have qbI := n1_; have qEB := n2_; have qcC := n3_; clear n0_ n1_ n2_ n3_; clear hb hbox hg) | ((with_reducible refine qaK (f := 57) rfl ?_); refine qbm (some 1) rfl rfl Try.func57 (by kernel_rfl) rfl #[] rfl (by (try simp only [List.map_toArray, List.map_cons, List.map_nil]); first | done | rfl | (simp only [List.length_drop, List.length_take]; rfl)) ?_; (with_reducible refine (qdp.calls  t259 t262 t265 t268 t269 _ A1.out).mono ?_); rintro e w4 ⟨v260, v263, v266, rfl, ho0, ho1, ho2, hb⟩; refine ⟨_, rfl, ?_⟩; have n0_ := qaa.mk (Kd.R_lower (Kd.R_newM (M := fun k_ => (w.heap.size ≤ k_)) ho0 (qam (by repeat (first | (with_reducible first | exact HB.out | apply qaf | apply qad | apply qah | refine qag ?_ qcC.out) | exact HB.out))) (fun k_ h_ => h_)) (qam (by repeat (first | (with_reducible first | exact HB.out | apply qaf | apply qad | apply qah | refine qag ?_ qcC.out) | exact HB.out)))); have n1_ := qaa.mk (Kd.R_lower (Kd.R_newM (M := fun k_ => (w.heap.size ≤ k_)) ho1 (qam (by repeat (first | (with_reducible first | exact HB.out | apply qaf | apply qad | apply qah | refine qag ?_ qcC.out) | exact HB.out))) (fun k_ h_ => h_)) (qam (by repeat (first | (with_reducible first | exact HB.out | apply qaf | apply qad | apply qah | refine qag ?_ qcC.out) | exact HB.out)))); have n2_ := qaa.mk (Kd.R_lower (Kd.R_newM (M := fun k_ => (w.heap.size ≤ k_)) ho2 (qam (by repeat (first | (with_reducible first | exact HB.out | apply qaf | apply qad | apply qah | refine qag ?_ qcC.out) | exact HB.out))) (fun k_ h_ => h_)) (qam (by repeat (first | (with_reducible first | exact HB.out | apply qaf | apply qad | apply qah | refine qag ?_ qcC.out) | exact HB.out)))); have n3_ := qaa.mk (qan (g := qbE) (o := .cells #[.slice none 0 0, .slice none 0 0, .slice none 0 0] 47 (0, 0)) (by (with_reducible repeat (first | refine qac ?_ _ | refine qae ?_ | refine qab ?_ _)); exact qbI.out) hb); have n4_ := qaa.mk (qar (by repeat (first | (with_reducible first | exact HB.out | apply qaf | apply qad | apply qah | refine qag ?_ qcC.out) | exact HB.out)) hb); clear qbI; clear HB; have qhA := n0_; have qhB := n1_; have qhC := n2_; have qbI := n3_; have HB := n4_; clear n0_ n1_ n2_ n3_ n4_; (try clear hb); (try clear hb2); (try clear hk); (try clear hi); (try clear ho0); (try clear ho1); (try clear ho2)) | ((with_reducible refine qaK (f := 94) rfl ?_); refine qbm (some 2) rfl rfl Try.func94 (by kernel_rfl) rfl #[] rfl (by (try simp only [List.map_toArray, List.map_cons, List.map_nil]); first | done | rfl | (simp only [List.length_drop, List.length_take]; rfl)) ?_; (with_reducible refine (qdN.calls  t270 t273 t276 t279 t280 _ A2.out).mono ?_); rintro e w5 ⟨v271, v274, v277, rfl, ho0, ho1, ho2, hb⟩; refine ⟨_, rfl, ?_⟩; have n0_ := qaa.mk (Kd.R_mono (Kd.R_told (Kd.R_told (Kd.R_told (Kd.R_old (by (with_reducible repeat (first | apply Kd.R_alloc | apply Kd.R_drewN | apply Kd.R_drew)); exact qhA.out) hb) (Kd.R_base ho0)) (Kd.R_base ho1)) (Kd.R_base ho2)) (fun _ h_ => h_.1)); have n1_ := qaa.mk (Kd.R_mono (Kd.R_told (Kd.R_told (Kd.R_told (Kd.R_old (by (with_reducible repeat (first | apply Kd.R_alloc | apply Kd.R_drewN | apply Kd.R_drew)); exact qhB.out) hb) (Kd.R_base ho0)) (Kd.R_base ho1)) (Kd.R_base ho2)) (fun _ h_ => h_.1)); have n2_ := qaa.mk (Kd.R_mono (Kd.R_told (Kd.R_told (Kd.R_told (Kd.R_old (by (with_reducible repeat (first | apply Kd.R_alloc | apply Kd.R_drewN | apply Kd.R_drew)); exact qhC.out) hb) (Kd.R_base ho0)) (Kd.R_base ho1)) (Kd.R_base ho2)) (fun _ h_ => h_.1)); have n3_ := qaa.mk (Kd.R_lower (Kd.R_new' (Kd.R_new' (Kd.R_new' (Kd.R_newM (M := fun k_ => (w.heap.size ≤ k_)) ho0 (qam (by repeat (first | (with_reducible first | exact HB.out | apply qaf | apply qad | apply qah | refine qag ?_ qcC.out) | exact HB.out))) (fun k_ h_ => h_)) (Kd.R_lt (by (with_reducible repeat (first | apply Kd.R_alloc | apply Kd.R_drewN | apply Kd.R_drew)); exact qhA.out))) (Kd.R_lt (by (with_reducible repeat (first | apply Kd.R_alloc | apply Kd.R_drewN | apply Kd.R_drew)); exact qhB.out))) (Kd.R_lt (by (with_reducible repeat (first | apply Kd.R_alloc | apply Kd.R_drewN | apply Kd.R_drew)); exact qhC.out))) (qam (by repeat (first | (with_reducible first | exact HB.out | apply qaf | apply qad | apply qah | refine qag ?_ qcC.out) | exact HB.out)))); have n4_ := qaa.mk (Kd.R_lower (Kd.R_new' (Kd.R_new' (Kd.R_new' (Kd.R_newM (M := fun k_ => (w.heap.size ≤ k_)) ho1 (qam (by repeat (first | (with_reducible first | exact HB.out | apply qaf | apply qad | apply qah | refine qag ?_ qcC.out) | exact HB.out))) (fun k_ h_ => h_)) (Kd.R_lt (by (with_reducible repeat (first | apply Kd.R_alloc | apply Kd.R_drewN | apply Kd.R_drew)); exact qhA.out))) (Kd.R_lt (by (with_reducible repeat (first | apply Kd.R_alloc | apply Kd.R_drewN | apply Kd.R_drew)); exact qhB.out))) (Kd.R_lt (by (with_reducible repeat (first | apply Kd.R_alloc | apply Kd.R_drewN | apply Kd.R_drew)); exact qhC.out))) (qam (by repeat (first | (with_reducible first | exact HB.out | apply qaf | apply qad | apply qah | refine qag ?_ qcC.out) | exact HB.out)))); have n5_ := qaa.mk (Kd.R_lower (Kd.R_new' (Kd.R_new' (Kd.R_new' (Kd.R_newM (M := fun k_ => (w.heap.size ≤ k_)) ho2 (qam (by repeat (first | (with_reducible first | exact HB.out | apply qaf | apply qad | apply qah | refine qag ?_ qcC.out) | exact HB.out))) (fun k_ h_ => h_)) (Kd.R_lt (by (with_reducible repeat (first | apply Kd.R_alloc | apply Kd.R_drewN | apply Kd.R_drew)); exact qhA.out))) (Kd.R_lt (by (with_reducible repeat (first | apply Kd.R_alloc | apply Kd.R_drewN | apply Kd.R_drew)); exact qhB.out))) (Kd.R_lt (by (with_reducible repeat (first | apply Kd.R_alloc | apply Kd.R_drewN | apply Kd.R_drew)); exact qhC.out))) (qam (by repeat (first | (with_reducible first | exact HB.out | apply qaf | apply qad | apply qah | refine qag ?_ qcC.out) | exact HB.out)))); have n6_ := qaa.mk (qan (g := qbE) (o := .cells #[.slice none 0 0, .slice none 0 0, .slice none 0 0] 47 (0, 0)) (by (with_reducible repeat (first | refine qac ?_ _ | refine qae ?_ | refine qab ?_ _)); exact qbI.out) hb); have n7_ := qaa.mk (qar (by repeat (first | (with_reducible first | exact HB.out | apply qaf | apply qad | apply qah | refine qag ?_ qcC.out) | exact HB.out)) hb); clear qhA; clear qhB; clear qhC; clear qbI; clear HB; have qhA := n0_; have qhB := n1_; have qhC := n2_; have qm2 := n3_; have qm3 := n4_; have qm4 := n5_; have qbI := n6_; have HB := n7_; clear n0_ n1_ n2_ n3_ n4_ n5_ n6_ n7_; (try clear hb); (try clear hb2); (try clear hk); (try clear hi); (try clear ho0); (try clear ho1); (try clear ho2); obtain ⟨Ao6, co6, eo6⟩ := Kd.R_slice qhA.out; subst eo6; obtain ⟨Ao7, co7, eo7⟩ := Kd.R_slice qhB.out; subst eo7; obtain ⟨Ao8, co8, eo8⟩ := Kd.R_slice qhC.out; subst eo8; obtain ⟨Ao9, co9, eo9⟩ := Kd.R_slice qm2.out; subst eo9; obtain ⟨Ao10, co10, eo10⟩ := Kd.R_slice qm3.out; subst eo10; obtain ⟨Ao11, co11, eo11⟩ := Kd.R_slice qm4.out; subst eo11) | ((with_reducible refine qaN (N := 3) rfl ?_); refine Kd.N_lit k39 _ 39 ?hg (N' := 3) ?hd (xs := ([(⟨t259, t262, t265, t268, t269⟩ : S39), (⟨t270, t273, t276, t279, t280⟩ : S39)] : List (S39))) (inner := [.slice Ao6 t259.length co6, .slice Ao7 t262.length co7, .slice Ao8 t265.length co8, .int .i64 t268, .int .i64 t269, .slice Ao9 t270.length co9, .slice Ao10 t273.length co10, .slice Ao11 t276.length co11, .int .i64 t279, .int .i64 t280]) (ok := (fun k_ => (w.heap.size ≤ k_) ∧ k_ ≠ qbE)) (okp := (fun k_ => (w.heap.size ≤ k_) ∧ k_ ≠ qbE)) ?hr ?hp (fun _ hk => hk) ((show ∀ k_, w5.heap.size ≤ k_ → (fun k_ => (w.heap.size ≤ k_) ∧ k_ ≠ qbE) k_ from fun k_ hk => ⟨(Nat.le_trans (qam (by repeat (first | (with_reducible first | exact HB.out | apply qaf | apply qad | apply qah | refine qag ?_ qcC.out) | exact HB.out))) hk), Kd.freshB (g := qbE) (o := .cells #[.slice none 0 0, .slice none 0 0, .slice none 0 0] 47 (0, 0)) (by (with_reducible repeat (first | refine qac ?_ _ | refine qae ?_ | refine qab ?_ _)); exact qbI.out) k_ hk⟩) _ (Nat.le_refl _)) (Below.refl _ _) (Nat.le_refl _) (by simp) ?_; (case hd => rfl); (case hg => rfl); (case hr => first | (go_simp; done) | (go_simp; rfl)); (case hp => exact (Reps.c5 (show Kd.FK k39 _ _ (⟨t259, t262, t265, t268, t269⟩ : S39) [.slice Ao6 t259.length co6, .slice Ao7 t262.length co7, .slice Ao8 t265.length co8, .int .i64 t268, .int .i64 t269] from (qnY _ _ (⟨t259, t262, t265, t268, t269⟩ : S39) (Kd.R_reads' (Kd.R_mono (ok' := (fun k_ => (w.heap.size ≤ k_) ∧ k_ ≠ qbE)) (Kd.R_types (qhA.out) qbI.out (by decide)) (fun k_ hk => ⟨hk.1.1.1.1.1, hk.2⟩))).2.1 (Kd.R_F (Kd.R_mono (ok' := (fun k_ => (w.heap.size ≤ k_) ∧ k_ ≠ qbE)) (Kd.R_types (qhA.out) qbI.out (by decide)) (fun k_ hk => ⟨hk.1.1.1.1.1, hk.2⟩))) (Kd.R_reads' (Kd.R_mono (ok' := (fun k_ => (w.heap.size ≤ k_) ∧ k_ ≠ qbE)) (Kd.R_types (qhB.out) qbI.out (by decide)) (fun k_ hk => ⟨hk.1.1.1.1.1, hk.2⟩))).2.1 (Kd.R_F (Kd.R_mono (ok' := (fun k_ => (w.heap.size ≤ k_) ∧ k_ ≠ qbE)) (Kd.R_types (qhB.out) qbI.out (by decide)) (fun k_ hk => ⟨hk.1.1.1.1.1, hk.2⟩))) (Kd.R_reads' (Kd.R_mono (ok' := (fun k_ => (w.heap.size ≤ k_) ∧ k_ ≠ qbE)) (Kd.R_types (qhC.out) qbI.out (by decide)) (fun k_ hk => ⟨hk.1.1.1.1.1, hk.2⟩))).2.1 (Kd.R_F (Kd.R_mono (ok' := (fun k_ => (w.heap.size ≤ k_) ∧ k_ ≠ qbE)) (Kd.R_types (qhC.out) qbI.out (by decide)) (fun k_ hk => ⟨hk.1.1.1.1.1, hk.2⟩))))) (Reps.c5 (show Kd.FK k39 _ _ (⟨t270, t273, t276, t279, t280⟩ : S39) [.slice Ao9 t270.length co9, .slice Ao10 t273.length co10, .slice Ao11 t276.length co11, .int .i64 t279, .int .i64 t280] from (qnY _ _ (⟨t270, t273, t276, t279, t280⟩ : S39) (Kd.R_reads' (Kd.R_mono (ok' := (fun k_ => (w.heap.size ≤ k_) ∧ k_ ≠ qbE)) (Kd.R_types (qm2.out) qbI.out (by decide)) (fun k_ hk => ⟨hk.1.1.1.1.1, hk.2⟩))).2.1 (Kd.R_F (Kd.R_mono (ok' := (fun k_ => (w.heap.size ≤ k_) ∧ k_ ≠ qbE)) (Kd.R_types (qm2.out) qbI.out (by decide)) (fun k_ hk => ⟨hk.1.1.1.1.1, hk.2⟩))) (Kd.R_reads' (Kd.R_mono (ok' := (fun k_ => (w.heap.size ≤ k_) ∧ k_ ≠ qbE)) (Kd.R_types (qm3.out) qbI.out (by decide)) (fun k_ hk => ⟨hk.1.1.1.1.1, hk.2⟩))).2.1 (Kd.R_F (Kd.R_mono (ok' := (fun k_ => (w.heap.size ≤ k_) ∧ k_ ≠ qbE)) (Kd.R_types (qm3.out) qbI.out (by decide)) (fun k_ hk => ⟨hk.1.1.1.1.1, hk.2⟩))) (Kd.R_reads' (Kd.R_mono (ok' := (fun k_ => (w.heap.size ≤ k_) ∧ k_ ≠ qbE)) (Kd.R_types (qm4.out) qbI.out (by decide)) (fun k_ hk => ⟨hk.1.1.1.1.1, hk.2⟩))).2.1 (Kd.R_F (Kd.R_mono (ok' := (fun k_ => (w.heap.size ≤ k_) ∧ k_ ≠ qbE)) (Kd.R_types (qm4.out) qbI.out (by decide)) (fun k_ hk => ⟨hk.1.1.1.1.1, hk.2⟩))))) (Reps.none _ _)))); intro v282 w12 ho13 hb hg_ hnew_; clear hg_ hnew_; (first | rw [← qqV.out] at ho13 | (simp only [Int.reduceToNat] at ho13; rw [← qqV.out] at ho13)); have n0_ := qaa.mk (Kd.N_lower ho13 (qam (by repeat (first | (with_reducible first | exact HB.out | apply qaf | apply qad | apply qah | refine qag ?_ qcC.out) | exact HB.out)))); have n1_ := qaa.mk (qan (g := qbE) (o := .cells #[.slice none 0 0, .slice none 0 0, .slice none 0 0] 47 (0, 0)) (by (with_reducible repeat (first | refine qac ?_ _ | refine qae ?_ | refine qab ?_ _)); exact qbI.out) hb); have n2_ := qaa.mk (qar (by repeat (first | (with_reducible first | exact HB.out | apply qaf | apply qad | apply qah | refine qag ?_ qcC.out) | exact HB.out)) hb); clear qbI; clear HB; clear qhA; clear qhB; clear qhC; clear qm2; clear qm3; clear qm4; have qcN := n0_; have qbI := n1_; have HB := n2_; clear n0_ n1_ n2_; clear hb ho13) | ((with_reducible refine qaN (N := 4) rfl ?_); refine Kd.R_lit (Kd.int .i64) _ 3 ?hg (N := 4) ?hd (xs := ([40, 80] : List Int)) (inner := [.int .i64 40, .int .i64 80]) (ok := fun _ => True) (okp := fun _ => True) ?hr ?hp (fun _ hk => hk) trivial (Below.refl _ _) (Nat.le_refl _) (by simp) ?_; (case hd => rfl); (case hg => rfl); (case hr => first | (go_simp; done) | (go_simp; rfl)); (case hp => exact (Reps.one (show Kd.M (Kd.int .i64) _ _ _ 40 [.int .i64 40] from rfl) (Reps.one (show Kd.M (Kd.int .i64) _ _ _ 80 [.int .i64 80] from rfl) (Reps.none _ _)))); intro v285 w14 ho15 hb hg_ hnew_; clear hg_ hnew_; (first | rw [← qqW.out] at ho15 | (simp only [Int.reduceToNat] at ho15; rw [← qqW.out] at ho15)); have n0_ := qaa.mk (Kd.N_elder' (by (with_reducible repeat (first | apply Kd.N_alloc | apply Kd.N_drewN | apply Kd.N_drew)); exact qcN.out) (Kd.R_base ho15) hb); have n1_ := qaa.mk (Kd.R_lower (Kd.R_newM (M := fun k_ => (w.heap.size ≤ k_)) ho15 (qam (by repeat (first | (with_reducible first | exact HB.out | apply qaf | apply qad | apply qah | refine qag ?_ qcC.out) | exact HB.out))) (fun k_ h_ => h_)) (qam (by repeat (first | (with_reducible first | exact HB.out | apply qaf | apply qad | apply qah | refine qag ?_ qcC.out) | exact HB.out)))); have n2_ := qaa.mk (qan (g := qbE) (o := .cells #[.slice none 0 0, .slice none 0 0, .slice none 0 0] 47 (0, 0)) (by (with_reducible repeat (first | refine qac ?_ _ | refine qae ?_ | refine qab ?_ _)); exact qbI.out) hb); have n3_ := qaa.mk (qar (by repeat (first | (with_reducible first | exact HB.out | apply qaf | apply qad | apply qah | refine qag ?_ qcC.out) | exact HB.out)) hb); clear qcN; clear qbI; clear HB; have qcN := n0_; have qdj := n1_; have qbI := n2_; have HB := n3_; clear n0_ n1_ n2_ n3_; clear hb ho15) | ((with_reducible refine qaN (N := 5) rfl ?_); refine Kd.R_lit (Kd.int .i64) _ 3 ?hg (N := 5) ?hd (xs := ([90, 80] : List Int)) (inner := [.int .i64 90, .int .i64 80]) (ok := fun _ => True) (okp := fun _ => True) ?hr ?hp (fun _ hk => hk) trivial (Below.refl _ _) (Nat.le_refl _) (by simp) ?_; (case hd => rfl); (case hg => rfl); (case hr => first | (go_simp; done) | (go_simp; rfl)); (case hp => exact (Reps.one (show Kd.M (Kd.int .i64) _ _ _ 90 [.int .i64 90] from rfl) (Reps.one (show Kd.M (Kd.int .i64) _ _ _ 80 [.int .i64 80] from rfl) (Reps.none _ _)))); intro v288 w16 ho17 hb hg_ hnew_; clear hg_ hnew_; (first | rw [← qqX.out] at ho17 | (simp only [Int.reduceToNat] at ho17; rw [← qqX.out] at ho17)); have n0_ := qaa.mk (Kd.N_elder' (by (with_reducible repeat (first | apply Kd.N_alloc | apply Kd.N_drewN | apply Kd.N_drew)); exact qcN.out) (Kd.R_base ho17) hb); have n1_ := qaa.mk (Kd.R_elder' (by (with_reducible repeat (first | apply Kd.R_alloc | apply Kd.R_drewN | apply Kd.R_drew)); exact qdj.out) (Kd.R_base ho17) hb); have n2_ := qaa.mk (Kd.R_lower (Kd.R_new' (Kd.R_newM (M := fun k_ => (w.heap.size ≤ k_)) ho17 (qam (by repeat (first | (with_reducible first | exact HB.out | apply qaf | apply qad | apply qah | refine qag ?_ qcC.out) | exact HB.out))) (fun k_ h_ => h_)) (Kd.R_lt (by (with_reducible repeat (first | apply Kd.R_alloc | apply Kd.R_drewN | apply Kd.R_drew)); exact qdj.out))) (qam (by repeat (first | (with_reducible first | exact HB.out | apply qaf | apply qad | apply qah | refine qag ?_ qcC.out) | exact HB.out)))); have n3_ := qaa.mk (qan (g := qbE) (o := .cells #[.slice none 0 0, .slice none 0 0, .slice none 0 0] 47 (0, 0)) (by (with_reducible repeat (first | refine qac ?_ _ | refine qae ?_ | refine qab ?_ _)); exact qbI.out) hb); have n4_ := qaa.mk (qar (by repeat (first | (with_reducible first | exact HB.out | apply qaf | apply qad | apply qah | refine qag ?_ qcC.out) | exact HB.out)) hb); clear qcN; clear qdj; clear qbI; clear HB; have qcN := n0_; have qdj := n1_; have qiB := n2_; have qbI := n3_; have HB := n4_; clear n0_ n1_ n2_ n3_ n4_; clear hb ho17) | ((with_reducible refine qaN (N := 6) rfl ?_); refine Kd.R_lit (Kd.int .i64) _ 3 ?hg (N := 6) ?hd (xs := ([10, 10] : List Int)) (inner := [.int .i64 10, .int .i64 10]) (ok := fun _ => True) (okp := fun _ => True) ?hr ?hp (fun _ hk => hk) trivial (Below.refl _ _) (Nat.le_refl _) (by simp) ?_; (case hd => rfl); (case hg => rfl); (case hr => first | (go_simp; done) | (go_simp; rfl)); (case hp => exact (Reps.one (show Kd.M (Kd.int .i64) _ _ _ 10 [.int .i64 10] from rfl) (Reps.one (show Kd.M (Kd.int .i64) _ _ _ 10 [.int .i64 10] from rfl) (Reps.none _ _)))); intro v291 w18 ho19 hb hg_ hnew_; clear hg_ hnew_; (first | rw [← qqY.out] at ho19 | (simp only [Int.reduceToNat] at ho19; rw [← qqY.out] at ho19)); have n0_ := qaa.mk (Kd.N_elder' (by (with_reducible repeat (first | apply Kd.N_alloc | apply Kd.N_drewN | apply Kd.N_drew)); exact qcN.out) (Kd.R_base ho19) hb); have n1_ := qaa.mk (Kd.R_elder' (by (with_reducible repeat (first | apply Kd.R_alloc | apply Kd.R_drewN | apply Kd.R_drew)); exact qdj.out) (Kd.R_base ho19) hb); have n2_ := qaa.mk (Kd.R_elder' (by (with_reducible repeat (first | apply Kd.R_alloc | apply Kd.R_drewN | apply Kd.R_drew)); exact qiB.out) (Kd.R_base ho19) hb); have n3_ := qaa.mk (Kd.R_lower (Kd.R_new' (Kd.R_new' (Kd.R_newM (M := fun k_ => (w.heap.size ≤ k_)) ho19 (qam (by repeat (first | (with_reducible first | exact HB.out | apply qaf | apply qad | apply qah | refine qag ?_ qcC.out) | exact HB.out))) (fun k_ h_ => h_)) (Kd.R_lt (by (with_reducible repeat (first | apply Kd.R_alloc | apply Kd.R_drewN | apply Kd.R_drew)); exact qdj.out))) (Kd.R_lt (by (with_reducible repeat (first | apply Kd.R_alloc | apply Kd.R_drewN | apply Kd.R_drew)); exact qiB.out))) (qam (by repeat (first | (with_reducible first | exact HB.out | apply qaf | apply qad | apply qah | refine qag ?_ qcC.out) | exact HB.out)))); have n4_ := qaa.mk (qan (g := qbE) (o := .cells #[.slice none 0 0, .slice none 0 0, .slice none 0 0] 47 (0, 0)) (by (with_reducible repeat (first | refine qac ?_ _ | refine qae ?_ | refine qab ?_ _)); exact qbI.out) hb); have n5_ := qaa.mk (qar (by repeat (first | (with_reducible first | exact HB.out | apply qaf | apply qad | apply qah | refine qag ?_ qcC.out) | exact HB.out)) hb); clear qcN; clear qdj; clear qiB; clear qbI; clear HB; have qcN := n0_; have qdj := n1_; have qiB := n2_; have qm5 := n3_; have qbI := n4_; have HB := n5_; clear n0_ n1_ n2_ n3_ n4_ n5_; clear hb ho19; obtain ⟨Ao20, co20, eo20⟩ := Kd.R_slice qiB.out; subst eo20; obtain ⟨Ao21, co21, eo21⟩ := Kd.R_slice qm5.out; subst eo21) | ((with_reducible refine qaN (N := 7) rfl ?_); refine Kd.N_lit (Kd.slice 3 (Kd.int .i64)) _ 37 ?hg (N' := 7) ?hd (xs := ([y287, y290] : List (List Int))) (inner := [.slice Ao20 y287.length co20, .slice Ao21 y290.length co21]) (ok := (fun k_ => (w.heap.size ≤ k_) ∧ some k_ ≠ (v282 : Value).ownBlock ∧ some k_ ≠ (v285 : Value).ownBlock ∧ k_ ≠ qbE)) (okp := (fun k_ => (w.heap.size ≤ k_) ∧ some k_ ≠ (v282 : Value).ownBlock ∧ some k_ ≠ (v285 : Value).ownBlock ∧ k_ ≠ qbE)) ?hr ?hp (fun _ hk => hk) ((show ∀ k_, w18.heap.size ≤ k_ → (fun k_ => (w.heap.size ≤ k_) ∧ some k_ ≠ (v282 : Value).ownBlock ∧ some k_ ≠ (v285 : Value).ownBlock ∧ k_ ≠ qbE) k_ from fun k_ hk => ⟨(Nat.le_trans (qam (by repeat (first | (with_reducible first | exact HB.out | apply qaf | apply qad | apply qah | refine qag ?_ qcC.out) | exact HB.out))) hk), Kd.fresh' (Kd.N_lt (by (with_reducible repeat (first | apply Kd.N_alloc | apply Kd.N_drewN | apply Kd.N_drew)); exact qcN.out)) k_ hk, Kd.fresh' (Kd.R_lt (by (with_reducible repeat (first | apply Kd.R_alloc | apply Kd.R_drewN | apply Kd.R_drew)); exact qdj.out)) k_ hk, Kd.freshB (g := qbE) (o := .cells #[.slice none 0 0, .slice none 0 0, .slice none 0 0] 47 (0, 0)) (by (with_reducible repeat (first | refine qac ?_ _ | refine qae ?_ | refine qab ?_ _)); exact qbI.out) k_ hk⟩) _ (Nat.le_refl _)) (Below.refl _ _) (Nat.le_refl _) (by simp) ?_; (case hd => rfl); (case hg => rfl); (case hr => first | (go_simp; done) | (go_simp; rfl)); (case hp => exact (Reps.one (show Kd.FK (Kd.slice 3 (Kd.int .i64)) _ _ y287 [.slice Ao20 y287.length co20] from (Kd.FK_slice_mk (Kd.R_reads' (Kd.R_mono (ok' := (fun k_ => (w.heap.size ≤ k_) ∧ some k_ ≠ (v282 : Value).ownBlock ∧ some k_ ≠ (v285 : Value).ownBlock ∧ k_ ≠ qbE)) (Kd.R_types (Kd.R_apart' (qiB.out) (Kd.N_typed qcN.out) (by decide)) qbI.out (by decide)) (fun k_ hk => ⟨hk.1.1.1.1.1, ⟨hk.1.2, ⟨hk.1.1.1.2, hk.2⟩⟩⟩))).2.1 (Kd.R_F (Kd.R_mono (ok' := (fun k_ => (w.heap.size ≤ k_) ∧ some k_ ≠ (v282 : Value).ownBlock ∧ some k_ ≠ (v285 : Value).ownBlock ∧ k_ ≠ qbE)) (Kd.R_types (Kd.R_apart' (qiB.out) (Kd.N_typed qcN.out) (by decide)) qbI.out (by decide)) (fun k_ hk => ⟨hk.1.1.1.1.1, ⟨hk.1.2, ⟨hk.1.1.1.2, hk.2⟩⟩⟩))))) (Reps.one (show Kd.FK (Kd.slice 3 (Kd.int .i64)) _ _ y290 [.slice Ao21 y290.length co21] from (Kd.FK_slice_mk (Kd.R_reads' (Kd.R_mono (ok' := (fun k_ => (w.heap.size ≤ k_) ∧ some k_ ≠ (v282 : Value).ownBlock ∧ some k_ ≠ (v285 : Value).ownBlock ∧ k_ ≠ qbE)) (Kd.R_types (Kd.R_apart' (qm5.out) (Kd.N_typed qcN.out) (by decide)) qbI.out (by decide)) (fun k_ hk => ⟨hk.1.1.1.1.1, ⟨hk.1.2, ⟨hk.1.1.1.2, hk.2⟩⟩⟩))).2.1 (Kd.R_F (Kd.R_mono (ok' := (fun k_ => (w.heap.size ≤ k_) ∧ some k_ ≠ (v282 : Value).ownBlock ∧ some k_ ≠ (v285 : Value).ownBlock ∧ k_ ≠ qbE)) (Kd.R_types (Kd.R_apart' (qm5.out) (Kd.N_typed qcN.out) (by decide)) qbI.out (by decide)) (fun k_ hk => ⟨hk.1.1.1.1.1, ⟨hk.1.2, ⟨hk.1.1.1.2, hk.2⟩⟩⟩))))) (Reps.none _ _)))); intro v294 w22 ho23 hb hg_ hnew_; clear hg_ hnew_; (first | rw [← qqZ.out] at ho23 | (simp only [Int.reduceToNat] at ho23; rw [← qqZ.out] at ho23)); have n0_ := qaa.mk (Kd.N_elder' (by (with_reducible repeat (first | apply Kd.N_alloc | apply Kd.N_drewN | apply Kd.N_drew)); exact qcN.out) (Kd.N_base ho23) hb); have n1_ := qaa.mk (Kd.R_below (by (with_reducible repeat (first | apply Kd.R_alloc | apply Kd.R_drewN | apply Kd.R_drew)); exact qdj.out) hb); have n2_ := qaa.mk (Kd.N_lower ho23 (qam (by repeat (first | (with_reducible first | exact HB.out | apply qaf | apply qad | apply qah | refine qag ?_ qcC.out) | exact HB.out)))); have n3_ := qaa.mk (qan (g := qbE) (o := .cells #[.slice none 0 0, .slice none 0 0, .slice none 0 0] 47 (0, 0)) (by (with_reducible repeat (first | refine qac ?_ _ | refine qae ?_ | refine qab ?_ _)); exact qbI.out) hb); have n4_ := qaa.mk (qar (by repeat (first | (with_reducible first | exact HB.out | apply qaf | apply qad | apply qah | refine qag ?_ qcC.out) | exact HB.out)) hb); clear qcN; clear qdj; clear qbI; clear HB; clear qiB; clear qm5; have qcN := n0_; have qdj := n1_; have qeR := n2_; have qbI := n3_; have HB := n4_; clear n0_ n1_ n2_ n3_ n4_; clear hb ho23) | ((with_reducible refine qaN (N := 8) rfl ?_); refine Kd.R_lit (Kd.int .i64) _ 3 ?hg (N := 8) ?hd (xs := ([0, 0] : List Int)) (inner := [.int .i64 0, .int .i64 0]) (ok := fun _ => True) (okp := fun _ => True) ?hr ?hp (fun _ hk => hk) trivial (Below.refl _ _) (Nat.le_refl _) (by simp) ?_; (case hd => rfl); (case hg => rfl); (case hr => first | (go_simp; done) | (go_simp; rfl)); (case hp => exact (Reps.one (show Kd.M (Kd.int .i64) _ _ _ 0 [.int .i64 0] from rfl) (Reps.one (show Kd.M (Kd.int .i64) _ _ _ 0 [.int .i64 0] from rfl) (Reps.none _ _)))); intro v297 w24 ho25 hb hg_ hnew_; clear hg_ hnew_; (first | rw [← qq0.out] at ho25 | (simp only [Int.reduceToNat] at ho25; rw [← qq0.out] at ho25)); have n0_ := qaa.mk (Kd.N_elder' (by (with_reducible repeat (first | apply Kd.N_alloc | apply Kd.N_drewN | apply Kd.N_drew)); exact qcN.out) (Kd.R_base ho25) hb); have n1_ := qaa.mk (Kd.R_elder' (by (with_reducible repeat (first | apply Kd.R_alloc | apply Kd.R_drewN | apply Kd.R_drew)); exact qdj.out) (Kd.R_base ho25) hb); have n2_ := qaa.mk (Kd.N_elder' (by (with_reducible repeat (first | apply Kd.N_alloc | apply Kd.N_drewN | apply Kd.N_drew)); exact qeR.out) (Kd.R_base ho25) hb); have n3_ := qaa.mk (Kd.R_lower (Kd.R_new' (Kd.R_newM (M := fun k_ => (w.heap.size ≤ k_)) ho25 (qam (by repeat (first | (with_reducible first | exact HB.out | apply qaf | apply qad | apply qah | refine qag ?_ qcC.out) | exact HB.out))) (fun k_ h_ => h_)) (Kd.R_lt (by (with_reducible repeat (first | apply Kd.R_alloc | apply Kd.R_drewN | apply Kd.R_drew)); exact qdj.out))) (qam (by repeat (first | (with_reducible first | exact HB.out | apply qaf | apply qad | apply qah | refine qag ?_ qcC.out) | exact HB.out)))); have n4_ := qaa.mk (qan (g := qbE) (o := .cells #[.slice none 0 0, .slice none 0 0, .slice none 0 0] 47 (0, 0)) (by (with_reducible repeat (first | refine qac ?_ _ | refine qae ?_ | refine qab ?_ _)); exact qbI.out) hb); have n5_ := qaa.mk (qar (by repeat (first | (with_reducible first | exact HB.out | apply qaf | apply qad | apply qah | refine qag ?_ qcC.out) | exact HB.out)) hb); clear qcN; clear qdj; clear qeR; clear qbI; clear HB; have qcN := n0_; have qdj := n1_; have qeR := n2_; have qiC := n3_; have qbI := n4_; have HB := n5_; clear n0_ n1_ n2_ n3_ n4_ n5_; clear hb ho25) | ((with_reducible refine qaN (N := 9) rfl ?_); refine Kd.R_lit (Kd.int .i64) _ 3 ?hg (N := 9) ?hd (xs := ([0, 0] : List Int)) (inner := [.int .i64 0, .int .i64 0]) (ok := fun _ => True) (okp := fun _ => True) ?hr ?hp (fun _ hk => hk) trivial (Below.refl _ _) (Nat.le_refl _) (by simp) ?_; (case hd => rfl); (case hg => rfl); (case hr => first | (go_simp; done) | (go_simp; rfl)); (case hp => exact (Reps.one (show Kd.M (Kd.int .i64) _ _ _ 0 [.int .i64 0] from rfl) (Reps.one (show Kd.M (Kd.int .i64) _ _ _ 0 [.int .i64 0] from rfl) (Reps.none _ _)))); intro v300 w26 ho27 hb hg_ hnew_; clear hg_ hnew_; (first | rw [← qq1.out] at ho27 | (simp only [Int.reduceToNat] at ho27; rw [← qq1.out] at ho27)); have n0_ := qaa.mk (Kd.N_elder' (by (with_reducible repeat (first | apply Kd.N_alloc | apply Kd.N_drewN | apply Kd.N_drew)); exact qcN.out) (Kd.R_base ho27) hb); have n1_ := qaa.mk (Kd.R_elder' (by (with_reducible repeat (first | apply Kd.R_alloc | apply Kd.R_drewN | apply Kd.R_drew)); exact qdj.out) (Kd.R_base ho27) hb); have n2_ := qaa.mk (Kd.N_elder' (by (with_reducible repeat (first | apply Kd.N_alloc | apply Kd.N_drewN | apply Kd.N_drew)); exact qeR.out) (Kd.R_base ho27) hb); have n3_ := qaa.mk (Kd.R_elder' (by (with_reducible repeat (first | apply Kd.R_alloc | apply Kd.R_drewN | apply Kd.R_drew)); exact qiC.out) (Kd.R_base ho27) hb); have n4_ := qaa.mk (Kd.R_lower (Kd.R_new' (Kd.R_new' (Kd.R_newM (M := fun k_ => (w.heap.size ≤ k_)) ho27 (qam (by repeat (first | (with_reducible first | exact HB.out | apply qaf | apply qad | apply qah | refine qag ?_ qcC.out) | exact HB.out))) (fun k_ h_ => h_)) (Kd.R_lt (by (with_reducible repeat (first | apply Kd.R_alloc | apply Kd.R_drewN | apply Kd.R_drew)); exact qdj.out))) (Kd.R_lt (by (with_reducible repeat (first | apply Kd.R_alloc | apply Kd.R_drewN | apply Kd.R_drew)); exact qiC.out))) (qam (by repeat (first | (with_reducible first | exact HB.out | apply qaf | apply qad | apply qah | refine qag ?_ qcC.out) | exact HB.out)))); have n5_ := qaa.mk (qan (g := qbE) (o := .cells #[.slice none 0 0, .slice none 0 0, .slice none 0 0] 47 (0, 0)) (by (with_reducible repeat (first | refine qac ?_ _ | refine qae ?_ | refine qab ?_ _)); exact qbI.out) hb); have n6_ := qaa.mk (qar (by repeat (first | (with_reducible first | exact HB.out | apply qaf | apply qad | apply qah | refine qag ?_ qcC.out) | exact HB.out)) hb); clear qcN; clear qdj; clear qeR; clear qiC; clear qbI; clear HB; have qcN := n0_; have qdj := n1_; have qeR := n2_; have qiC := n3_; have qm6 := n4_; have qbI := n5_; have HB := n6_; clear n0_ n1_ n2_ n3_ n4_ n5_ n6_; clear hb ho27; obtain ⟨Ao28, co28, eo28⟩ := Kd.R_slice qiC.out; subst eo28; obtain ⟨Ao29, co29, eo29⟩ := Kd.R_slice qm6.out; subst eo29) | ((with_reducible refine qaN (N := 10) rfl ?_); refine Kd.N_lit (Kd.slice 3 (Kd.int .i64)) _ 37 ?hg (N' := 10) ?hd (xs := ([y296, y299] : List (List Int))) (inner := [.slice Ao28 y296.length co28, .slice Ao29 y299.length co29]) (ok := (fun k_ => (w.heap.size ≤ k_) ∧ some k_ ≠ (v282 : Value).ownBlock ∧ some k_ ≠ (v285 : Value).ownBlock ∧ some k_ ≠ (v294 : Value).ownBlock ∧ k_ ≠ qbE)) (okp := (fun k_ => (w.heap.size ≤ k_) ∧ some k_ ≠ (v282 : Value).ownBlock ∧ some k_ ≠ (v285 : Value).ownBlock ∧ some k_ ≠ (v294 : Value).ownBlock ∧ k_ ≠ qbE)) ?hr ?hp (fun _ hk => hk) ((show ∀ k_, w26.heap.size ≤ k_ → (fun k_ => (w.heap.size ≤ k_) ∧ some k_ ≠ (v282 : Value).ownBlock ∧ some k_ ≠ (v285 : Value).ownBlock ∧ some k_ ≠ (v294 : Value).ownBlock ∧ k_ ≠ qbE) k_ from fun k_ hk => ⟨(Nat.le_trans (qam (by repeat (first | (with_reducible first | exact HB.out | apply qaf | apply qad | apply qah | refine qag ?_ qcC.out) | exact HB.out))) hk), Kd.fresh' (Kd.N_lt (by (with_reducible repeat (first | apply Kd.N_alloc | apply Kd.N_drewN | apply Kd.N_drew)); exact qcN.out)) k_ hk, Kd.fresh' (Kd.R_lt (by (with_reducible repeat (first | apply Kd.R_alloc | apply Kd.R_drewN | apply Kd.R_drew)); exact qdj.out)) k_ hk, Kd.fresh' (Kd.N_lt (by (with_reducible repeat (first | apply Kd.N_alloc | apply Kd.N_drewN | apply Kd.N_drew)); exact qeR.out)) k_ hk, Kd.freshB (g := qbE) (o := .cells #[.slice none 0 0, .slice none 0 0, .slice none 0 0] 47 (0, 0)) (by (with_reducible repeat (first | refine qac ?_ _ | refine qae ?_ | refine qab ?_ _)); exact qbI.out) k_ hk⟩) _ (Nat.le_refl _)) (Below.refl _ _) (Nat.le_refl _) (by simp) ?_; (case hd => rfl); (case hg => rfl); (case hr => first | (go_simp; done) | (go_simp; rfl)); (case hp => exact (Reps.one (show Kd.FK (Kd.slice 3 (Kd.int .i64)) _ _ y296 [.slice Ao28 y296.length co28] from (Kd.FK_slice_mk (Kd.R_reads' (Kd.R_mono (ok' := (fun k_ => (w.heap.size ≤ k_) ∧ some k_ ≠ (v282 : Value).ownBlock ∧ some k_ ≠ (v285 : Value).ownBlock ∧ some k_ ≠ (v294 : Value).ownBlock ∧ k_ ≠ qbE)) (Kd.R_types (Kd.R_apart' (Kd.R_apart' (qiC.out) (Kd.N_typed qcN.out) (by decide)) (Kd.N_typed qeR.out) (by decide)) qbI.out (by decide)) (fun k_ hk => ⟨hk.1.1.1.1.1.1, ⟨hk.1.1.2, ⟨hk.1.1.1.1.2, ⟨hk.1.2, hk.2⟩⟩⟩⟩))).2.1 (Kd.R_F (Kd.R_mono (ok' := (fun k_ => (w.heap.size ≤ k_) ∧ some k_ ≠ (v282 : Value).ownBlock ∧ some k_ ≠ (v285 : Value).ownBlock ∧ some k_ ≠ (v294 : Value).ownBlock ∧ k_ ≠ qbE)) (Kd.R_types (Kd.R_apart' (Kd.R_apart' (qiC.out) (Kd.N_typed qcN.out) (by decide)) (Kd.N_typed qeR.out) (by decide)) qbI.out (by decide)) (fun k_ hk => ⟨hk.1.1.1.1.1.1, ⟨hk.1.1.2, ⟨hk.1.1.1.1.2, ⟨hk.1.2, hk.2⟩⟩⟩⟩))))) (Reps.one (show Kd.FK (Kd.slice 3 (Kd.int .i64)) _ _ y299 [.slice Ao29 y299.length co29] from (Kd.FK_slice_mk (Kd.R_reads' (Kd.R_mono (ok' := (fun k_ => (w.heap.size ≤ k_) ∧ some k_ ≠ (v282 : Value).ownBlock ∧ some k_ ≠ (v285 : Value).ownBlock ∧ some k_ ≠ (v294 : Value).ownBlock ∧ k_ ≠ qbE)) (Kd.R_types (Kd.R_apart' (Kd.R_apart' (qm6.out) (Kd.N_typed qcN.out) (by decide)) (Kd.N_typed qeR.out) (by decide)) qbI.out (by decide)) (fun k_ hk => ⟨hk.1.1.1.1.1.1, ⟨hk.1.1.2, ⟨hk.1.1.1.1.2, ⟨hk.1.2, hk.2⟩⟩⟩⟩))).2.1 (Kd.R_F (Kd.R_mono (ok' := (fun k_ => (w.heap.size ≤ k_) ∧ some k_ ≠ (v282 : Value).ownBlock ∧ some k_ ≠ (v285 : Value).ownBlock ∧ some k_ ≠ (v294 : Value).ownBlock ∧ k_ ≠ qbE)) (Kd.R_types (Kd.R_apart' (Kd.R_apart' (qm6.out) (Kd.N_typed qcN.out) (by decide)) (Kd.N_typed qeR.out) (by decide)) qbI.out (by decide)) (fun k_ hk => ⟨hk.1.1.1.1.1.1, ⟨hk.1.1.2, ⟨hk.1.1.1.1.2, ⟨hk.1.2, hk.2⟩⟩⟩⟩))))) (Reps.none _ _)))); intro v303 w30 ho31 hb hg_ hnew_; clear hg_ hnew_; (first | rw [← qq2.out] at ho31 | (simp only [Int.reduceToNat] at ho31; rw [← qq2.out] at ho31)); have n0_ := qaa.mk (Kd.N_elder' (by (with_reducible repeat (first | apply Kd.N_alloc | apply Kd.N_drewN | apply Kd.N_drew)); exact qcN.out) (Kd.N_base ho31) hb); have n1_ := qaa.mk (Kd.R_below (by (with_reducible repeat (first | apply Kd.R_alloc | apply Kd.R_drewN | apply Kd.R_drew)); exact qdj.out) hb); have n2_ := qaa.mk (Kd.N_elder' (by (with_reducible repeat (first | apply Kd.N_alloc | apply Kd.N_drewN | apply Kd.N_drew)); exact qeR.out) (Kd.N_base ho31) hb); have n3_ := qaa.mk (Kd.N_lower ho31 (qam (by repeat (first | (with_reducible first | exact HB.out | apply qaf | apply qad | apply qah | refine qag ?_ qcC.out) | exact HB.out)))); have n4_ := qaa.mk (qan (g := qbE) (o := .cells #[.slice none 0 0, .slice none 0 0, .slice none 0 0] 47 (0, 0)) (by (with_reducible repeat (first | refine qac ?_ _ | refine qae ?_ | refine qab ?_ _)); exact qbI.out) hb); have n5_ := qaa.mk (qar (by repeat (first | (with_reducible first | exact HB.out | apply qaf | apply qad | apply qah | refine qag ?_ qcC.out) | exact HB.out)) hb); clear qcN; clear qdj; clear qeR; clear qbI; clear HB; clear qiC; clear qm6; have qcN := n0_; have qdj := n1_; have qeR := n2_; have qm7 := n3_; have qbI := n4_; have HB := n5_; clear n0_ n1_ n2_ n3_ n4_ n5_; clear hb ho31; obtain ⟨Ao32, co32, eo32⟩ := Kd.N_slice qeR.out; subst eo32; obtain ⟨Ao33, co33, eo33⟩ := Kd.N_slice qm7.out; subst eo33) | ((with_reducible refine qaN (N := 11) rfl ?_); refine Kd.N_lit (Kd.slice 37 (Kd.slice 3 (Kd.int .i64))) _ 63 ?hg (N' := 11) ?hd (xs := ([y293, y302] : List (List (List Int)))) (inner := [.slice Ao32 y293.length co32, .slice Ao33 y302.length co33]) (ok := (fun k_ => (w.heap.size ≤ k_) ∧ some k_ ≠ (v282 : Value).ownBlock ∧ some k_ ≠ (v285 : Value).ownBlock ∧ k_ ≠ qbE)) (okp := (fun k_ => (w.heap.size ≤ k_) ∧ some k_ ≠ (v282 : Value).ownBlock ∧ some k_ ≠ (v285 : Value).ownBlock ∧ k_ ≠ qbE)) ?hr ?hp (fun _ hk => hk) ((show ∀ k_, w30.heap.size ≤ k_ → (fun k_ => (w.heap.size ≤ k_) ∧ some k_ ≠ (v282 : Value).ownBlock ∧ some k_ ≠ (v285 : Value).ownBlock ∧ k_ ≠ qbE) k_ from fun k_ hk => ⟨(Nat.le_trans (qam (by repeat (first | (with_reducible first | exact HB.out | apply qaf | apply qad | apply qah | refine qag ?_ qcC.out) | exact HB.out))) hk), Kd.fresh' (Kd.N_lt (by (with_reducible repeat (first | apply Kd.N_alloc | apply Kd.N_drewN | apply Kd.N_drew)); exact qcN.out)) k_ hk, Kd.fresh' (Kd.R_lt (by (with_reducible repeat (first | apply Kd.R_alloc | apply Kd.R_drewN | apply Kd.R_drew)); exact qdj.out)) k_ hk, Kd.freshB (g := qbE) (o := .cells #[.slice none 0 0, .slice none 0 0, .slice none 0 0] 47 (0, 0)) (by (with_reducible repeat (first | refine qac ?_ _ | refine qae ?_ | refine qab ?_ _)); exact qbI.out) k_ hk⟩) _ (Nat.le_refl _)) (Below.refl _ _) (Nat.le_refl _) (by simp) ?_; (case hd => rfl); (case hg => rfl); (case hr => first | (go_simp; done) | (go_simp; rfl)); (case hp => exact (Reps.one (show Kd.FK (Kd.slice 37 (Kd.slice 3 (Kd.int .i64))) _ _ y293 [.slice Ao32 y293.length co32] from (Kd.FK_slice_mk (Kd.N_reads' (Kd.N_mono (ok' := (fun k_ => (w.heap.size ≤ k_) ∧ some k_ ≠ (v282 : Value).ownBlock ∧ some k_ ≠ (v285 : Value).ownBlock ∧ k_ ≠ qbE)) (qeR.out) (fun k_ hk => ⟨hk.1.1.1.1, ⟨hk.1.1.1.2.1, ⟨hk.1.1.1.2.2.1, hk.1.1.1.2.2.2⟩⟩⟩))).2.1 (Kd.N_F (Kd.N_mono (ok' := (fun k_ => (w.heap.size ≤ k_) ∧ some k_ ≠ (v282 : Value).ownBlock ∧ some k_ ≠ (v285 : Value).ownBlock ∧ k_ ≠ qbE)) (qeR.out) (fun k_ hk => ⟨hk.1.1.1.1, ⟨hk.1.1.1.2.1, ⟨hk.1.1.1.2.2.1, hk.1.1.1.2.2.2⟩⟩⟩))))) (Reps.one (show Kd.FK (Kd.slice 37 (Kd.slice 3 (Kd.int .i64))) _ _ y302 [.slice Ao33 y302.length co33] from (Kd.FK_slice_mk (Kd.N_reads' (Kd.N_mono (ok' := (fun k_ => (w.heap.size ≤ k_) ∧ some k_ ≠ (v282 : Value).ownBlock ∧ some k_ ≠ (v285 : Value).ownBlock ∧ k_ ≠ qbE)) (qm7.out) (fun k_ hk => ⟨hk.1, ⟨hk.2.1, ⟨hk.2.2.1, hk.2.2.2.2⟩⟩⟩))).2.1 (Kd.N_F (Kd.N_mono (ok' := (fun k_ => (w.heap.size ≤ k_) ∧ some k_ ≠ (v282 : Value).ownBlock ∧ some k_ ≠ (v285 : Value).ownBlock ∧ k_ ≠ qbE)) (qm7.out) (fun k_ hk => ⟨hk.1, ⟨hk.2.1, ⟨hk.2.2.1, hk.2.2.2.2⟩⟩⟩))))) (Reps.none _ _)))); intro v306 w34 ho35 hb hg_ hnew_; clear hg_ hnew_; (first | rw [← qq3.out] at ho35 | (simp only [Int.reduceToNat] at ho35; rw [← qq3.out] at ho35)); have n0_ := qaa.mk (Kd.N_elder' (by (with_reducible repeat (first | apply Kd.N_alloc | apply Kd.N_drewN | apply Kd.N_drew)); exact qcN.out) (Kd.N_base ho35) hb); have n1_ := qaa.mk (Kd.R_below (by (with_reducible repeat (first | apply Kd.R_alloc | apply Kd.R_drewN | apply Kd.R_drew)); exact qdj.out) hb); have n2_ := qaa.mk (Kd.N_lower ho35 (qam (by repeat (first | (with_reducible first | exact HB.out | apply qaf | apply qad | apply qah | refine qag ?_ qcC.out) | exact HB.out)))); have n3_ := qaa.mk (qan (g := qbE) (o := .cells #[.slice none 0 0, .slice none 0 0, .slice none 0 0] 47 (0, 0)) (by (with_reducible repeat (first | refine qac ?_ _ | refine qae ?_ | refine qab ?_ _)); exact qbI.out) hb); have n4_ := qaa.mk (qar (by repeat (first | (with_reducible first | exact HB.out | apply qaf | apply qad | apply qah | refine qag ?_ qcC.out) | exact HB.out)) hb); clear qcN; clear qdj; clear qbI; clear HB; clear qeR; clear qm7; have qcN := n0_; have qdj := n1_; have qq4 := n2_; have qbI := n3_; have HB := n4_; clear n0_ n1_ n2_ n3_ n4_; clear hb ho35; obtain ⟨Ao36, co36, eo36⟩ := Kd.N_slice qq4.out; subst eo36; obtain ⟨Ao37, co37, eo37⟩ := Kd.R_slice qdj.out; subst eo37; obtain ⟨Ao38, co38, eo38⟩ := Kd.N_slice qcN.out; subst eo38; have qsV : w34.cell? ⟨qbE, 0, none⟩ = some (.slice none 0 0) := (qai qbI.out 0).trans rfl; have qsW : w34.cell? ⟨qbE, 1, none⟩ = some (.slice none 0 0) := (qai qbI.out 1).trans rfl; have qsX : w34.cell? ⟨qbE, 2, none⟩ = some (.slice none 0 0) := (qai qbI.out 2).trans rfl; have qsY := qaj qbI.out 0; have qsZ := qaj qbI.out 1; have qs0 := qaj qbI.out 2))
 refine bodyPost_ret (results_cell_row rfl _ _ qbE 47 #[.slice Ao38 y281.length co38, .slice Ao37 y284.length co37, .slice Ao36 y305.length co36] (0, 0) _ rfl (by (with_reducible repeat (first | refine qac ?_ _ | refine qae ?_ | refine qab ?_ _)); refine qaw (cs := #[.slice Ao38 y281.length co38, .slice Ao37 y284.length co37, .slice none 0 0]) ?_ 2 _ rfl; (with_reducible repeat (first | refine qac ?_ _ | refine qae ?_ | refine qab ?_ _)); refine qaw (cs := #[.slice Ao38 y281.length co38, .slice none 0 0, .slice none 0 0]) ?_ 1 _ rfl; (with_reducible repeat (first | refine qac ?_ _ | refine qae ?_ | refine qab ?_ _)); refine qaw (cs := #[.slice none 0 0, .slice none 0 0, .slice none 0 0]) ?_ 0 _ rfl; (with_reducible repeat (first | refine qac ?_ _ | refine qae ?_ | refine qab ?_ _)); exact qbI.out) Try.underlying47 rfl (by kernel_rfl)) rfl ?_
 exact ⟨_, _, _, by first | rfl | (simp [qaG, qaH] <;> rfl) | (simp [*, qaG, qaH] <;> rfl), by (with_reducible repeat (first | apply Kd.N_alloc | apply Kd.N_drewN | apply Kd.N_drew)); exact Kd.N_mono (Kd.N_far (p := ⟨qbE, 2, none⟩) (Kd.N_far (p := ⟨qbE, 1, none⟩) (Kd.N_far (p := ⟨qbE, 0, none⟩) (Kd.N_mono qcN.out (fun k_ hk => (⟨hk, hk.1.1.1.1.1.1.1.1.2⟩ : _ ∧ k_ ≠ qbE))) (fun _ hk => hk.2) (.slice Ao38 y281.length co38)) (fun _ hk => hk.2) (.slice Ao37 y284.length co37)) (fun _ hk => hk.2) (.slice Ao36 y305.length co36)) (fun _ hk => ⟨hk.1.1.1.1.1.1.1.1.1.1, ⟨hk.1.1.1.1.1.1.1.1.2, hk.1.2⟩⟩), by (with_reducible repeat (first | apply Kd.R_alloc | apply Kd.R_drewN | apply Kd.R_drew)); exact Kd.R_mono (Kd.R_far (p := ⟨qbE, 2, none⟩) (Kd.R_far (p := ⟨qbE, 1, none⟩) (Kd.R_far (p := ⟨qbE, 0, none⟩) (Kd.R_types qdj.out qbI.out (by decide)) (fun _ hk => hk.2) (.slice Ao38 y281.length co38)) (fun _ hk => hk.2) (.slice Ao37 y284.length co37)) (fun _ hk => hk.2) (.slice Ao36 y305.length co36)) (fun _ hk => hk.1.1.1.1.1.1), by (with_reducible repeat (first | apply Kd.N_alloc | apply Kd.N_drewN | apply Kd.N_drew)); exact Kd.N_mono (Kd.N_far (p := ⟨qbE, 2, none⟩) (Kd.N_far (p := ⟨qbE, 1, none⟩) (Kd.N_far (p := ⟨qbE, 0, none⟩) (Kd.N_mono qq4.out (fun k_ hk => (⟨hk, hk.2.2.2⟩ : _ ∧ k_ ≠ qbE))) (fun _ hk => hk.2) (.slice Ao38 y281.length co38)) (fun _ hk => hk.2) (.slice Ao37 y284.length co37)) (fun _ hk => hk.2) (.slice Ao36 y305.length co36)) (fun _ hk => ⟨hk.1.1, ⟨hk.1.2.1, hk.1.2.2.1⟩⟩), by repeat (first | (with_reducible first | exact HB.out | apply qaf | apply qad | apply qah | refine qag ?_ qcC.out) | exact HB.out)⟩
end Go.Proofs.Ytmhomdohhihlcaa.P
namespace Go.Proofs.Ytmhomdohhihlcaa.P
open Go.RowKit Go.Proofs.YtmhomdohhihlcaaW.PrintWords Go.Proofs.YtmhomdohhihlcaaW.PrintLast Go.Proofs.YtmhomdohhihlcaaW.PrintMore
attribute [local go_sem] qb7 qb6 qcr qcq qbR qbS qb8 qb4
def qeP.f  : Option ((List (S68))) := (qaS.f 2 2).bind fun qlJ => ((qaS.f 3 4).bind fun qiD => ((qaS.f 4 6).bind fun qhi => (some (([(⟨30, (⟨qlJ.1, qlJ.2⟩ : S25)⟩ : S68), (⟨20, (⟨qiD.1, qiD.2⟩ : S25)⟩ : S68), (⟨10, (⟨qhi.1, qhi.2⟩ : S25)⟩ : S68)] : List (S68))))))
set_option maxHeartbeats 8000000 in
set_option maxRecDepth 100000 in
theorem qeP.calls  (r : List (S68)) (w : World) (h : qeP.f  = some r) :
  Calls Try.prog 59 #[] w fun e w' => ∃ v0_ : Value, e = .returned (v0_) ∧ Kd.R k68 68 w' w.heap.size (fun _ => True) v0_ r ∧ Below w.heap.size w w' := by
 have hu68 := Try.underlying68
 have HB := qaa.mk (Below.refl w.heap.size w)
 have H : ((qaS.f 2 2).bind fun qlJ => ((qaS.f 3 4).bind fun qiD => ((qaS.f 4 6).bind fun qhi => (some (([(⟨30, (⟨qlJ.1, qlJ.2⟩ : S25)⟩ : S68), (⟨20, (⟨qiD.1, qiD.2⟩ : S25)⟩ : S68), (⟨10, (⟨qhi.1, qhi.2⟩ : S25)⟩ : S68)] : List (S68))))))) = some r := h
 clear h
 replace H := Option.bind_eq_some_iff.mp H
 obtain ⟨⟨t308, t309⟩, A10, H⟩ := H
 replace H : ((qaS.f 3 4).bind fun qiD => ((qaS.f 4 6).bind fun qhi => (some (([(⟨30, (⟨t308, t309⟩ : S25)⟩ : S68), (⟨20, (⟨qiD.1, qiD.2⟩ : S25)⟩ : S68), (⟨10, (⟨qhi.1, qhi.2⟩ : S25)⟩ : S68)] : List (S68)))))) = some r := H
 have A1 := qaa.mk A10
 clear A10
 replace H := Option.bind_eq_some_iff.mp H
 obtain ⟨⟨t310, t311⟩, A20, H⟩ := H
 replace H : ((qaS.f 4 6).bind fun qhi => (some (([(⟨30, (⟨t308, t309⟩ : S25)⟩ : S68), (⟨20, (⟨t310, t311⟩ : S25)⟩ : S68), (⟨10, (⟨qhi.1, qhi.2⟩ : S25)⟩ : S68)] : List (S68))))) = some r := H
 have A2 := qaa.mk A20
 clear A20
 replace H := Option.bind_eq_some_iff.mp H
 obtain ⟨⟨t312, t313⟩, A30, H⟩ := H
 replace H : (some (([(⟨30, (⟨t308, t309⟩ : S25)⟩ : S68), (⟨20, (⟨t310, t311⟩ : S25)⟩ : S68), (⟨10, (⟨t312, t313⟩ : S25)⟩ : S68)] : List (S68)))) = some r := H
 have A3 := qaa.mk A30
 clear A30
 obtain ⟨y314, qlK⟩ : ∃ y_ : List (S68), y_ = (([(⟨30, (⟨t308, t309⟩ : S25)⟩ : S68), (⟨20, (⟨t310, t311⟩ : S25)⟩ : S68), (⟨10, (⟨t312, t313⟩ : S25)⟩ : S68)] : List (S68))) := ⟨_, rfl⟩
 replace H : (some y314) = some r := by first | (rw [qlK]; with_reducible exact H) | (have H2_ := (Option.bind_some _ _).symm.trans H; rw [qlK]; with_reducible exact H2_) | (have H2_ := (Option.bind_some _ _).symm.trans H; with_reducible exact H2_) | with_reducible exact H | (rw [qlK]; exact H) | exact H
 have qq5 := qaa.mk qlK
 clear qlK
 obtain rfl := Option.some.inj H
 go_enter Try.func59, Try.ntmps59
 go_wp2_with (first | ((with_reducible refine qaK (f := 43) rfl ?_); refine qbm (some 1) rfl rfl Try.func43 (by kernel_rfl) rfl #[.int .i64 2, .int .i64 2] rfl (by (try simp only [List.map_toArray, List.map_cons, List.map_nil]); first | done | rfl | (simp only [List.length_drop, List.length_take]; rfl)) ?_; (with_reducible refine (qaS.calls 2 2 t308 t309 _ A1.out).mono ?_); rintro e w4 ⟨rfl, hb⟩; refine ⟨_, rfl, ?_⟩; have n0_ := qaa.mk (qar (by repeat (first | (with_reducible first | exact HB.out | apply qaf | apply qad | apply qah) | exact HB.out)) hb); clear HB; have HB := n0_; clear n0_; (try clear hb); (try clear hb2); (try clear hk); (try clear hi)) | ((with_reducible refine qaK (f := 43) rfl ?_); refine qbm (some 3) rfl rfl Try.func43 (by kernel_rfl) rfl #[.int .i64 3, .int .i64 4] rfl (by (try simp only [List.map_toArray, List.map_cons, List.map_nil]); first | done | rfl | (simp only [List.length_drop, List.length_take]; rfl)) ?_; (with_reducible refine (qaS.calls 3 4 t310 t311 _ A2.out).mono ?_); rintro e w5 ⟨rfl, hb⟩; refine ⟨_, rfl, ?_⟩; have n0_ := qaa.mk (qar (by repeat (first | (with_reducible first | exact HB.out | apply qaf | apply qad | apply qah) | exact HB.out)) hb); clear HB; have HB := n0_; clear n0_; (try clear hb); (try clear hb2); (try clear hk); (try clear hi)) | ((with_reducible refine qaK (f := 43) rfl ?_); refine qbm (some 5) rfl rfl Try.func43 (by kernel_rfl) rfl #[.int .i64 4, .int .i64 6] rfl (by (try simp only [List.map_toArray, List.map_cons, List.map_nil]); first | done | rfl | (simp only [List.length_drop, List.length_take]; rfl)) ?_; (with_reducible refine (qaS.calls 4 6 t312 t313 _ A3.out).mono ?_); rintro e w6 ⟨rfl, hb⟩; refine ⟨_, rfl, ?_⟩; have n0_ := qaa.mk (qar (by repeat (first | (with_reducible first | exact HB.out | apply qaf | apply qad | apply qah) | exact HB.out)) hb); clear HB; have HB := n0_; clear n0_; (try clear hb); (try clear hb2); (try clear hk); (try clear hi)) | ((with_reducible refine qaN (N := 7) rfl ?_); refine Kd.R_lit k68 _ 68 ?hg (N := 7) ?hd (xs := ([(⟨30, (⟨t308, t309⟩ : S25)⟩ : S68), (⟨20, (⟨t310, t311⟩ : S25)⟩ : S68), (⟨10, (⟨t312, t313⟩ : S25)⟩ : S68)] : List (S68))) (inner := [.int .i64 30, .int .i64 t308, .int .i64 t309, .int .i64 20, .int .i64 t310, .int .i64 t311, .int .i64 10, .int .i64 t312, .int .i64 t313]) (ok := fun _ => True) (okp := fun _ => True) ?hr ?hp (fun _ hk => hk) trivial (Below.refl _ _) (Nat.le_refl _) (by simp) ?_; (case hd => rfl); (case hg => rfl); (case hr => first | (go_simp; done) | (go_simp; rfl)); (case hp => exact (Reps.c3 (show Kd.M k68 _ _ _ (⟨30, (⟨t308, t309⟩ : S25)⟩ : S68) [.int .i64 30, .int .i64 t308, .int .i64 t309] from (qlW _ _ _ (⟨30, (⟨t308, t309⟩ : S25)⟩ : S68) )) (Reps.c3 (show Kd.M k68 _ _ _ (⟨20, (⟨t310, t311⟩ : S25)⟩ : S68) [.int .i64 20, .int .i64 t310, .int .i64 t311] from (qlW _ _ _ (⟨20, (⟨t310, t311⟩ : S25)⟩ : S68) )) (Reps.c3 (show Kd.M k68 _ _ _ (⟨10, (⟨t312, t313⟩ : S25)⟩ : S68) [.int .i64 10, .int .i64 t312, .int .i64 t313] from (qlW _ _ _ (⟨10, (⟨t312, t313⟩ : S25)⟩ : S68) )) (Reps.none _ _))))); intro v315 w7 ho8 hb hg_ hnew_; clear hg_ hnew_; (first | rw [← qq5.out] at ho8 | (simp only [Int.reduceToNat] at ho8; rw [← qq5.out] at ho8)); have n0_ := qaa.mk (Kd.R_lower ho8 (qam (by repeat (first | (with_reducible first | exact HB.out | apply qaf | apply qad | apply qah) | exact HB.out)))); have n1_ := qaa.mk (qar (by repeat (first | (with_reducible first | exact HB.out | apply qaf | apply qad | apply qah) | exact HB.out)) hb); clear HB; have quP := n0_; have HB := n1_; clear n0_ n1_; clear hb ho8))
 go_ret
 exact ⟨_, by first | rfl | (simp [qaG, qaH] <;> rfl) | (simp [*, qaG, qaH] <;> rfl), by (with_reducible repeat (first | apply Kd.R_alloc | apply Kd.R_drewN | apply Kd.R_drew)); exact quP.out, by repeat (first | (with_reducible first | exact HB.out | apply qaf | apply qad | apply qah) | exact HB.out)⟩
end Go.Proofs.Ytmhomdohhihlcaa.P
namespace Go.Proofs.Ytmhomdohhihlcaa.P
open Go.RowKit Go.Proofs.YtmhomdohhihlcaaW.PrintWords Go.Proofs.YtmhomdohhihlcaaW.PrintLast Go.Proofs.YtmhomdohhihlcaaW.PrintMore
attribute [local go_sem] qb7 qb6 qcr qcq qbR qbS qb8 qb4
def qfj.f  : Option ((List (S25))) := (qaS.f 45 50).bind fun qlL => ((qaS.f 50 55).bind fun qiE => (some (([(⟨qlL.1, qlL.2⟩ : S25), (⟨qiE.1, qiE.2⟩ : S25)] : List (S25)))))
set_option maxHeartbeats 8000000 in
set_option maxRecDepth 100000 in
theorem qfj.calls  (r : List (S25)) (w : World) (h : qfj.f  = some r) :
  Calls Try.prog 60 #[] w fun e w' => ∃ v0_ : Value, e = .returned (v0_) ∧ Kd.R k25 25 w' w.heap.size (fun _ => True) v0_ r ∧ Below w.heap.size w w' := by
 have HB := qaa.mk (Below.refl w.heap.size w)
 have H : ((qaS.f 45 50).bind fun qlL => ((qaS.f 50 55).bind fun qiE => (some (([(⟨qlL.1, qlL.2⟩ : S25), (⟨qiE.1, qiE.2⟩ : S25)] : List (S25)))))) = some r := h
 clear h
 replace H := Option.bind_eq_some_iff.mp H
 obtain ⟨⟨t317, t318⟩, A10, H⟩ := H
 replace H : ((qaS.f 50 55).bind fun qiE => (some (([(⟨t317, t318⟩ : S25), (⟨qiE.1, qiE.2⟩ : S25)] : List (S25))))) = some r := H
 have A1 := qaa.mk A10
 clear A10
 replace H := Option.bind_eq_some_iff.mp H
 obtain ⟨⟨t319, t320⟩, A20, H⟩ := H
 replace H : (some (([(⟨t317, t318⟩ : S25), (⟨t319, t320⟩ : S25)] : List (S25)))) = some r := H
 have A2 := qaa.mk A20
 clear A20
 obtain ⟨y321, qlM⟩ : ∃ y_ : List (S25), y_ = (([(⟨t317, t318⟩ : S25), (⟨t319, t320⟩ : S25)] : List (S25))) := ⟨_, rfl⟩
 replace H : (some y321) = some r := by first | (rw [qlM]; with_reducible exact H) | (have H2_ := (Option.bind_some _ _).symm.trans H; rw [qlM]; with_reducible exact H2_) | (have H2_ := (Option.bind_some _ _).symm.trans H; with_reducible exact H2_) | with_reducible exact H | (rw [qlM]; exact H) | exact H
 have qq6 := qaa.mk qlM
 clear qlM
 obtain rfl := Option.some.inj H
 go_enter Try.func60, Try.ntmps60
 go_wp2_with (first | ((with_reducible refine qaK (f := 43) rfl ?_); refine qbm (some 1) rfl rfl Try.func43 (by kernel_rfl) rfl #[.int .i64 45, .int .i64 50] rfl (by (try simp only [List.map_toArray, List.map_cons, List.map_nil]); first | done | rfl | (simp only [List.length_drop, List.length_take]; rfl)) ?_; (with_reducible refine (qaS.calls 45 50 t317 t318 _ A1.out).mono ?_); rintro e w3 ⟨rfl, hb⟩; refine ⟨_, rfl, ?_⟩; have n0_ := qaa.mk (qar (by repeat (first | (with_reducible first | exact HB.out | apply qaf | apply qad | apply qah) | exact HB.out)) hb); clear HB; have HB := n0_; clear n0_; (try clear hb); (try clear hb2); (try clear hk); (try clear hi)) | ((with_reducible refine qaK (f := 43) rfl ?_); refine qbm (some 2) rfl rfl Try.func43 (by kernel_rfl) rfl #[.int .i64 50, .int .i64 55] rfl (by (try simp only [List.map_toArray, List.map_cons, List.map_nil]); first | done | rfl | (simp only [List.length_drop, List.length_take]; rfl)) ?_; (with_reducible refine (qaS.calls 50 55 t319 t320 _ A2.out).mono ?_); rintro e w4 ⟨rfl, hb⟩; refine ⟨_, rfl, ?_⟩; have n0_ := qaa.mk (qar (by repeat (first | (with_reducible first | exact HB.out | apply qaf | apply qad | apply qah) | exact HB.out)) hb); clear HB; have HB := n0_; clear n0_; (try clear hb); (try clear hb2); (try clear hk); (try clear hi)) | ((with_reducible refine qaN (N := 3) rfl ?_); refine Kd.R_lit k25 _ 25 ?hg (N := 3) ?hd (xs := ([(⟨t317, t318⟩ : S25), (⟨t319, t320⟩ : S25)] : List (S25))) (inner := [.int .i64 t317, .int .i64 t318, .int .i64 t319, .int .i64 t320]) (ok := fun _ => True) (okp := fun _ => True) ?hr ?hp (fun _ hk => hk) trivial (Below.refl _ _) (Nat.le_refl _) (by simp) ?_; (case hd => rfl); (case hg => rfl); (case hr => first | (go_simp; done) | (go_simp; rfl)); (case hp => exact (Reps.c2 (show Kd.M k25 _ _ _ (⟨t317, t318⟩ : S25) [.int .i64 t317, .int .i64 t318] from (qf7 _ _ _ (⟨t317, t318⟩ : S25) )) (Reps.c2 (show Kd.M k25 _ _ _ (⟨t319, t320⟩ : S25) [.int .i64 t319, .int .i64 t320] from (qf7 _ _ _ (⟨t319, t320⟩ : S25) )) (Reps.none _ _)))); intro v322 w5 ho6 hb hg_ hnew_; clear hg_ hnew_; (first | rw [← qq6.out] at ho6 | (simp only [Int.reduceToNat] at ho6; rw [← qq6.out] at ho6)); have n0_ := qaa.mk (Kd.R_lower ho6 (qam (by repeat (first | (with_reducible first | exact HB.out | apply qaf | apply qad | apply qah) | exact HB.out)))); have n1_ := qaa.mk (qar (by repeat (first | (with_reducible first | exact HB.out | apply qaf | apply qad | apply qah) | exact HB.out)) hb); clear HB; have quQ := n0_; have HB := n1_; clear n0_ n1_; clear hb ho6))
 go_ret
 exact ⟨_, by first | rfl | (simp [qaG, qaH] <;> rfl) | (simp [*, qaG, qaH] <;> rfl), by (with_reducible repeat (first | apply Kd.R_alloc | apply Kd.R_drewN | apply Kd.R_drew)); exact quQ.out, by repeat (first | (with_reducible first | exact HB.out | apply qaf | apply qad | apply qah) | exact HB.out)⟩
end Go.Proofs.Ytmhomdohhihlcaa.P
namespace Go.Proofs.Ytmhomdohhihlcaa.P
open Go.RowKit Go.Proofs.YtmhomdohhihlcaaW.PrintWords Go.Proofs.YtmhomdohhihlcaaW.PrintLast Go.Proofs.YtmhomdohhihlcaaW.PrintMore
attribute [local go_sem] qb7 qb6 qcr qcq qbR qbS qb8 qb4
def qe6.f  : Option ((List (List (S25)))) := (qaS.f 60 70).bind fun qlN => ((qaS.f 30 40).bind fun qiF => ((qaS.f 20 30).bind fun qfM => ((qaS.f 70 80).bind fun qff => (some (([(([(⟨qlN.1, qlN.2⟩ : S25), (⟨qiF.1, qiF.2⟩ : S25)] : List (S25))), (([(⟨qfM.1, qfM.2⟩ : S25), (⟨qff.1, qff.2⟩ : S25)] : List (S25)))] : List (List (S25))))))))
set_option maxHeartbeats 8000000 in
set_option maxRecDepth 100000 in
theorem qe6.calls  (r : List (List (S25))) (w : World) (h : qe6.f  = some r) :
  Calls Try.prog 61 #[] w fun e w' => ∃ v0_ : Value, e = .returned (v0_) ∧ Kd.N (Kd.slice 25 k25) 32 w' w.heap.size (fun k_ => (w.heap.size ≤ k_)) v0_ r ∧ Below w.heap.size w w' := by
 have HB := qaa.mk (Below.refl w.heap.size w)
 have H : ((qaS.f 60 70).bind fun qlN => ((qaS.f 30 40).bind fun qiF => ((qaS.f 20 30).bind fun qfM => ((qaS.f 70 80).bind fun qff => (some (([(([(⟨qlN.1, qlN.2⟩ : S25), (⟨qiF.1, qiF.2⟩ : S25)] : List (S25))), (([(⟨qfM.1, qfM.2⟩ : S25), (⟨qff.1, qff.2⟩ : S25)] : List (S25)))] : List (List (S25))))))))) = some r := h
 clear h
 replace H := Option.bind_eq_some_iff.mp H
 obtain ⟨⟨t324, t325⟩, A10, H⟩ := H
 replace H : ((qaS.f 30 40).bind fun qiF => ((qaS.f 20 30).bind fun qfM => ((qaS.f 70 80).bind fun qff => (some (([(([(⟨t324, t325⟩ : S25), (⟨qiF.1, qiF.2⟩ : S25)] : List (S25))), (([(⟨qfM.1, qfM.2⟩ : S25), (⟨qff.1, qff.2⟩ : S25)] : List (S25)))] : List (List (S25)))))))) = some r := H
 have A1 := qaa.mk A10
 clear A10
 replace H := Option.bind_eq_some_iff.mp H
 obtain ⟨⟨t326, t327⟩, A20, H⟩ := H
 replace H : ((qaS.f 20 30).bind fun qfM => ((qaS.f 70 80).bind fun qff => (some (([(([(⟨t324, t325⟩ : S25), (⟨t326, t327⟩ : S25)] : List (S25))), (([(⟨qfM.1, qfM.2⟩ : S25), (⟨qff.1, qff.2⟩ : S25)] : List (S25)))] : List (List (S25))))))) = some r := H
 have A2 := qaa.mk A20
 clear A20
 obtain ⟨y328, qlO⟩ : ∃ y_ : List (S25), y_ = (([(⟨t324, t325⟩ : S25), (⟨t326, t327⟩ : S25)] : List (S25))) := ⟨_, rfl⟩
 replace H : ((qaS.f 20 30).bind fun qfM => ((qaS.f 70 80).bind fun qff => (some (([y328, (([(⟨qfM.1, qfM.2⟩ : S25), (⟨qff.1, qff.2⟩ : S25)] : List (S25)))] : List (List (S25))))))) = some r := by first | (rw [qlO]; with_reducible exact H) | (have H2_ := (Option.bind_some _ _).symm.trans H; rw [qlO]; with_reducible exact H2_) | (have H2_ := (Option.bind_some _ _).symm.trans H; with_reducible exact H2_) | with_reducible exact H | (rw [qlO]; exact H) | exact H
 have qq7 := qaa.mk qlO
 clear qlO
 replace H := Option.bind_eq_some_iff.mp H
 obtain ⟨⟨t331, t332⟩, A30, H⟩ := H
 replace H : ((qaS.f 70 80).bind fun qff => (some (([y328, (([(⟨t331, t332⟩ : S25), (⟨qff.1, qff.2⟩ : S25)] : List (S25)))] : List (List (S25)))))) = some r := H
 have A3 := qaa.mk A30
 clear A30
 replace H := Option.bind_eq_some_iff.mp H
 obtain ⟨⟨t333, t334⟩, A40, H⟩ := H
 replace H : (some (([y328, (([(⟨t331, t332⟩ : S25), (⟨t333, t334⟩ : S25)] : List (S25)))] : List (List (S25))))) = some r := H
 have A4 := qaa.mk A40
 clear A40
 obtain ⟨y335, qlP⟩ : ∃ y_ : List (S25), y_ = (([(⟨t331, t332⟩ : S25), (⟨t333, t334⟩ : S25)] : List (S25))) := ⟨_, rfl⟩
 replace H : (some (([y328, y335] : List (List (S25))))) = some r := by first | (rw [qlP]; with_reducible exact H) | (have H2_ := (Option.bind_some _ _).symm.trans H; rw [qlP]; with_reducible exact H2_) | (have H2_ := (Option.bind_some _ _).symm.trans H; with_reducible exact H2_) | with_reducible exact H | (rw [qlP]; exact H) | exact H
 have qq8 := qaa.mk qlP
 clear qlP
 obtain ⟨y338, qlQ⟩ : ∃ y_ : List (List (S25)), y_ = (([y328, y335] : List (List (S25)))) := ⟨_, rfl⟩
 replace H : (some y338) = some r := by first | (rw [qlQ]; with_reducible exact H) | (have H2_ := (Option.bind_some _ _).symm.trans H; rw [qlQ]; with_reducible exact H2_) | (have H2_ := (Option.bind_some _ _).symm.trans H; with_reducible exact H2_) | with_reducible exact H | (rw [qlQ]; exact H) | exact H
 have qq9 := qaa.mk qlQ
 clear qlQ
 obtain rfl := Option.some.inj H
 go_enter Try.func61, Try.ntmps61
 go_wp2_with (first | ((with_reducible refine qaK (f := 43) rfl ?_); refine qbm (some 1) rfl rfl Try.func43 (by kernel_rfl) rfl #[.int .i64 60, .int .i64 70] rfl (by (try simp only [List.map_toArray, List.map_cons, List.map_nil]); first | done | rfl | (simp only [List.length_drop, List.length_take]; rfl)) ?_; (with_reducible refine (qaS.calls 60 70 t324 t325 _ A1.out).mono ?_); rintro e w5 ⟨rfl, hb⟩; refine ⟨_, rfl, ?_⟩; have n0_ := qaa.mk (qar (by repeat (first | (with_reducible first | exact HB.out | apply qaf | apply qad | apply qah) | exact HB.out)) hb); clear HB; have HB := n0_; clear n0_; (try clear hb); (try clear hb2); (try clear hk); (try clear hi)) | ((with_reducible refine qaK (f := 43) rfl ?_); refine qbm (some 2) rfl rfl Try.func43 (by kernel_rfl) rfl #[.int .i64 30, .int .i64 40] rfl (by (try simp only [List.map_toArray, List.map_cons, List.map_nil]); first | done | rfl | (simp only [List.length_drop, List.length_take]; rfl)) ?_; (with_reducible refine (qaS.calls 30 40 t326 t327 _ A2.out).mono ?_); rintro e w6 ⟨rfl, hb⟩; refine ⟨_, rfl, ?_⟩; have n0_ := qaa.mk (qar (by repeat (first | (with_reducible first | exact HB.out | apply qaf | apply qad | apply qah) | exact HB.out)) hb); clear HB; have HB := n0_; clear n0_; (try clear hb); (try clear hb2); (try clear hk); (try clear hi)) | ((with_reducible refine qaN (N := 3) rfl ?_); refine Kd.R_lit k25 _ 25 ?hg (N := 3) ?hd (xs := ([(⟨t324, t325⟩ : S25), (⟨t326, t327⟩ : S25)] : List (S25))) (inner := [.int .i64 t324, .int .i64 t325, .int .i64 t326, .int .i64 t327]) (ok := fun _ => True) (okp := fun _ => True) ?hr ?hp (fun _ hk => hk) trivial (Below.refl _ _) (Nat.le_refl _) (by simp) ?_; (case hd => rfl); (case hg => rfl); (case hr => first | (go_simp; done) | (go_simp; rfl)); (case hp => exact (Reps.c2 (show Kd.M k25 _ _ _ (⟨t324, t325⟩ : S25) [.int .i64 t324, .int .i64 t325] from (qf7 _ _ _ (⟨t324, t325⟩ : S25) )) (Reps.c2 (show Kd.M k25 _ _ _ (⟨t326, t327⟩ : S25) [.int .i64 t326, .int .i64 t327] from (qf7 _ _ _ (⟨t326, t327⟩ : S25) )) (Reps.none _ _)))); intro v329 w7 ho8 hb hg_ hnew_; clear hg_ hnew_; (first | rw [← qq7.out] at ho8 | (simp only [Int.reduceToNat] at ho8; rw [← qq7.out] at ho8)); have n0_ := qaa.mk (Kd.R_lower (Kd.R_newM (M := fun k_ => (w.heap.size ≤ k_)) ho8 (qam (by repeat (first | (with_reducible first | exact HB.out | apply qaf | apply qad | apply qah) | exact HB.out))) (fun k_ h_ => h_)) (qam (by repeat (first | (with_reducible first | exact HB.out | apply qaf | apply qad | apply qah) | exact HB.out)))); have n1_ := qaa.mk (qar (by repeat (first | (with_reducible first | exact HB.out | apply qaf | apply qad | apply qah) | exact HB.out)) hb); clear HB; have qfN := n0_; have HB := n1_; clear n0_ n1_; clear hb ho8) | ((with_reducible refine qaK (f := 43) rfl ?_); refine qbm (some 4) rfl rfl Try.func43 (by kernel_rfl) rfl #[.int .i64 20, .int .i64 30] rfl (by (try simp only [List.map_toArray, List.map_cons, List.map_nil]); first | done | rfl | (simp only [List.length_drop, List.length_take]; rfl)) ?_; (with_reducible refine (qaS.calls 20 30 t331 t332 _ A3.out).mono ?_); rintro e w9 ⟨rfl, hb⟩; refine ⟨_, rfl, ?_⟩; have n0_ := qaa.mk (Kd.R_below (by (with_reducible repeat (first | apply Kd.R_alloc | apply Kd.R_drewN | apply Kd.R_drew)); exact qfN.out) hb); have n1_ := qaa.mk (qar (by repeat (first | (with_reducible first | exact HB.out | apply qaf | apply qad | apply qah) | exact HB.out)) hb); clear qfN; clear HB; have qfN := n0_; have HB := n1_; clear n0_ n1_; (try clear hb); (try clear hb2); (try clear hk); (try clear hi)) | ((with_reducible refine qaK (f := 43) rfl ?_); refine qbm (some 5) rfl rfl Try.func43 (by kernel_rfl) rfl #[.int .i64 70, .int .i64 80] rfl (by (try simp only [List.map_toArray, List.map_cons, List.map_nil]); first | done | rfl | (simp only [List.length_drop, List.length_take]; rfl)) ?_; (with_reducible refine (qaS.calls 70 80 t333 t334 _ A4.out).mono ?_); rintro e w10 ⟨rfl, hb⟩; refine ⟨_, rfl, ?_⟩; have n0_ := qaa.mk (Kd.R_below (by (with_reducible repeat (first | apply Kd.R_alloc | apply Kd.R_drewN | apply Kd.R_drew)); exact qfN.out) hb); have n1_ := qaa.mk (qar (by repeat (first | (with_reducible first | exact HB.out | apply qaf | apply qad | apply qah) | exact HB.out)) hb); clear qfN; clear HB; have qfN := n0_; have HB := n1_; clear n0_ n1_; (try clear hb); (try clear hb2); (try clear hk); (try clear hi)) | ((with_reducible refine qaN (N := 6) rfl ?_); refine Kd.R_lit k25 _ 25 ?hg (N := 6) ?hd (xs := ([(⟨t331, t332⟩ : S25), (⟨t333, t334⟩ : S25)] : List (S25))) (inner := [.int .i64 t331, .int .i64 t332, .int .i64 t333, .int .i64 t334]) (ok := fun _ => True) (okp := fun _ => True) ?hr ?hp (fun _ hk => hk) trivial (Below.refl _ _) (Nat.le_refl _) (by simp) ?_; (case hd => rfl); (case hg => rfl); (case hr => first | (go_simp; done) | (go_simp; rfl)); (case hp => exact (Reps.c2 (show Kd.M k25 _ _ _ (⟨t331, t332⟩ : S25) [.int .i64 t331, .int .i64 t332] from (qf7 _ _ _ (⟨t331, t332⟩ : S25) )) (Reps.c2 (show Kd.M k25 _ _ _ (⟨t333, t334⟩ : S25) [.int .i64 t333, .int .i64 t334] from (qf7 _ _ _ (⟨t333, t334⟩ : S25) )) (Reps.none _ _)))); intro v336 w11 ho12 hb hg_ hnew_; clear hg_ hnew_; (first | rw [← qq8.out] at ho12 | (simp only [Int.reduceToNat] at ho12; rw [← qq8.out] at ho12)); have n0_ := qaa.mk (Kd.R_elder' (by (with_reducible repeat (first | apply Kd.R_alloc | apply Kd.R_drewN | apply Kd.R_drew)); exact qfN.out) (Kd.R_base ho12) hb); have n1_ := qaa.mk (Kd.R_lower (Kd.R_new' (Kd.R_newM (M := fun k_ => (w.heap.size ≤ k_)) ho12 (qam (by repeat (first | (with_reducible first | exact HB.out | apply qaf | apply qad | apply qah) | exact HB.out))) (fun k_ h_ => h_)) (Kd.R_lt (by (with_reducible repeat (first | apply Kd.R_alloc | apply Kd.R_drewN | apply Kd.R_drew)); exact qfN.out))) (qam (by repeat (first | (with_reducible first | exact HB.out | apply qaf | apply qad | apply qah) | exact HB.out)))); have n2_ := qaa.mk (qar (by repeat (first | (with_reducible first | exact HB.out | apply qaf | apply qad | apply qah) | exact HB.out)) hb); clear qfN; clear HB; have qfN := n0_; have qm8 := n1_; have HB := n2_; clear n0_ n1_ n2_; clear hb ho12; obtain ⟨Ao13, co13, eo13⟩ := Kd.R_slice qfN.out; subst eo13; obtain ⟨Ao14, co14, eo14⟩ := Kd.R_slice qm8.out; subst eo14) | ((with_reducible refine qaN (N := 7) rfl ?_); refine Kd.N_lit (Kd.slice 25 k25) _ 32 ?hg (N' := 7) ?hd (xs := ([y328, y335] : List (List (S25)))) (inner := [.slice Ao13 y328.length co13, .slice Ao14 y335.length co14]) (ok := (fun k_ => (w.heap.size ≤ k_))) (okp := (fun k_ => (w.heap.size ≤ k_))) ?hr ?hp (fun _ hk => hk) ((show ∀ k_, w11.heap.size ≤ k_ → (fun k_ => (w.heap.size ≤ k_)) k_ from fun k_ hk => (Nat.le_trans (qam (by repeat (first | (with_reducible first | exact HB.out | apply qaf | apply qad | apply qah) | exact HB.out))) hk)) _ (Nat.le_refl _)) (Below.refl _ _) (Nat.le_refl _) (by simp) ?_; (case hd => rfl); (case hg => rfl); (case hr => first | (go_simp; done) | (go_simp; rfl)); (case hp => exact (Reps.one (show Kd.FK (Kd.slice 25 k25) _ _ y328 [.slice Ao13 y328.length co13] from (Kd.FK_slice_mk (Kd.R_reads' (Kd.R_mono (ok' := (fun k_ => (w.heap.size ≤ k_))) (qfN.out) (fun k_ hk => hk.1.1))).2.1 (Kd.R_F (Kd.R_mono (ok' := (fun k_ => (w.heap.size ≤ k_))) (qfN.out) (fun k_ hk => hk.1.1))))) (Reps.one (show Kd.FK (Kd.slice 25 k25) _ _ y335 [.slice Ao14 y335.length co14] from (Kd.FK_slice_mk (Kd.R_reads' (Kd.R_mono (ok' := (fun k_ => (w.heap.size ≤ k_))) (qm8.out) (fun k_ hk => hk.1.1))).2.1 (Kd.R_F (Kd.R_mono (ok' := (fun k_ => (w.heap.size ≤ k_))) (qm8.out) (fun k_ hk => hk.1.1))))) (Reps.none _ _)))); intro v339 w15 ho16 hb hg_ hnew_; clear hg_ hnew_; (first | rw [← qq9.out] at ho16 | (simp only [Int.reduceToNat] at ho16; rw [← qq9.out] at ho16)); have n0_ := qaa.mk (Kd.N_lower ho16 (qam (by repeat (first | (with_reducible first | exact HB.out | apply qaf | apply qad | apply qah) | exact HB.out)))); have n1_ := qaa.mk (qar (by repeat (first | (with_reducible first | exact HB.out | apply qaf | apply qad | apply qah) | exact HB.out)) hb); clear HB; clear qfN; clear qm8; have quR := n0_; have HB := n1_; clear n0_ n1_; clear hb ho16))
 go_ret
 exact ⟨_, by first | rfl | (simp [qaG, qaH] <;> rfl) | (simp [*, qaG, qaH] <;> rfl), by (with_reducible repeat (first | apply Kd.N_alloc | apply Kd.N_drewN | apply Kd.N_drew)); exact quR.out, by repeat (first | (with_reducible first | exact HB.out | apply qaf | apply qad | apply qah) | exact HB.out)⟩
end Go.Proofs.Ytmhomdohhihlcaa.P
namespace Go.Proofs.Ytmhomdohhihlcaa.P
open Go.RowKit Go.Proofs.YtmhomdohhihlcaaW.PrintWords Go.Proofs.YtmhomdohhihlcaaW.PrintLast Go.Proofs.YtmhomdohhihlcaaW.PrintMore
attribute [local go_sem] qb7 qb6 qcr qcq qbR qbS qb8 qb4
def qfr.f  : Option ((List (S136))) := some (([(⟨50, 8⟩ : S136), (⟨30, 5⟩ : S136), (⟨20, 1⟩ : S136), (⟨10, 4⟩ : S136)] : List (S136)))
set_option maxHeartbeats 8000000 in
set_option maxRecDepth 100000 in
theorem qfr.calls  (r : List (S136)) (w : World) (h : qfr.f  = some r) :
  Calls Try.prog 62 #[] w fun e w' => ∃ v0_ : Value, e = .returned (v0_) ∧ Kd.R k136 136 w' w.heap.size (fun _ => True) v0_ r ∧ Below w.heap.size w w' := by
 have qpe := Try.underlying136
 have HB := qaa.mk (Below.refl w.heap.size w)
 have H : (some (([(⟨50, 8⟩ : S136), (⟨30, 5⟩ : S136), (⟨20, 1⟩ : S136), (⟨10, 4⟩ : S136)] : List (S136)))) = some r := h
 clear h
 obtain ⟨y341, qlR⟩ : ∃ y_ : List (S136), y_ = (([(⟨50, 8⟩ : S136), (⟨30, 5⟩ : S136), (⟨20, 1⟩ : S136), (⟨10, 4⟩ : S136)] : List (S136))) := ⟨_, rfl⟩
 replace H : (some y341) = some r := by first | (rw [qlR]; with_reducible exact H) | (have H2_ := (Option.bind_some _ _).symm.trans H; rw [qlR]; with_reducible exact H2_) | (have H2_ := (Option.bind_some _ _).symm.trans H; with_reducible exact H2_) | with_reducible exact H | (rw [qlR]; exact H) | exact H
 have qra := qaa.mk qlR
 clear qlR
 obtain rfl := Option.some.inj H
 go_enter Try.func62, Try.ntmps62
 go_wp2_with (first | ((with_reducible refine qaN (N := 5) rfl ?_); refine Kd.R_lit k136 _ 136 ?hg (N := 5) ?hd (xs := ([(⟨50, 8⟩ : S136), (⟨30, 5⟩ : S136), (⟨20, 1⟩ : S136), (⟨10, 4⟩ : S136)] : List (S136))) (inner := [.int .i64 50, .int .i64 8, .int .i64 30, .int .i64 5, .int .i64 20, .int .i64 1, .int .i64 10, .int .i64 4]) (ok := fun _ => True) (okp := fun _ => True) ?hr ?hp (fun _ hk => hk) trivial (Below.refl _ _) (Nat.le_refl _) (by simp) ?_; (case hd => rfl); (case hg => rfl); (case hr => first | (go_simp; done) | (go_simp; rfl)); (case hp => exact (Reps.c2 (show Kd.M k136 _ _ _ (⟨50, 8⟩ : S136) [.int .i64 50, .int .i64 8] from (qjD _ _ _ (⟨50, 8⟩ : S136) )) (Reps.c2 (show Kd.M k136 _ _ _ (⟨30, 5⟩ : S136) [.int .i64 30, .int .i64 5] from (qjD _ _ _ (⟨30, 5⟩ : S136) )) (Reps.c2 (show Kd.M k136 _ _ _ (⟨20, 1⟩ : S136) [.int .i64 20, .int .i64 1] from (qjD _ _ _ (⟨20, 1⟩ : S136) )) (Reps.c2 (show Kd.M k136 _ _ _ (⟨10, 4⟩ : S136) [.int .i64 10, .int .i64 4] from (qjD _ _ _ (⟨10, 4⟩ : S136) )) (Reps.none _ _)))))); intro v342 w1 ho2 hb hg_ hnew_; clear hg_ hnew_; (first | rw [← qra.out] at ho2 | (simp only [Int.reduceToNat] at ho2; rw [← qra.out] at ho2)); have n0_ := qaa.mk (Kd.R_lower ho2 (qam (by repeat (first | (with_reducible first | exact HB.out | apply qaf | apply qad | apply qah) | exact HB.out)))); have n1_ := qaa.mk (qar (by repeat (first | (with_reducible first | exact HB.out | apply qaf | apply qad | apply qah) | exact HB.out)) hb); clear HB; have quS := n0_; have HB := n1_; clear n0_ n1_; clear hb ho2))
 go_ret
 exact ⟨_, by first | rfl | (simp [qaG, qaH] <;> rfl) | (simp [*, qaG, qaH] <;> rfl), by (with_reducible repeat (first | apply Kd.R_alloc | apply Kd.R_drewN | apply Kd.R_drew)); exact quS.out, by repeat (first | (with_reducible first | exact HB.out | apply qaf | apply qad | apply qah) | exact HB.out)⟩
end Go.Proofs.Ytmhomdohhihlcaa.P
namespace Go.Proofs.Ytmhomdohhihlcaa.P
open Go.RowKit Go.Proofs.YtmhomdohhihlcaaW.PrintWords Go.Proofs.YtmhomdohhihlcaaW.PrintLast Go.Proofs.YtmhomdohhihlcaaW.PrintMore
attribute [local go_sem] qb7 qb6 qcr qcq qbR qbS qb8 qb4
def qe7.f  : Option ((List (List Int))) := some (([(([0, 1] : List Int)), (([1, 2] : List Int)), (([2, 3] : List Int))] : List (List Int)))
set_option maxHeartbeats 8000000 in
set_option maxRecDepth 100000 in
theorem qe7.calls  (r : List (List Int)) (w : World) (h : qe7.f  = some r) :
  Calls Try.prog 63 #[] w fun e w' => ∃ v0_ : Value, e = .returned (v0_) ∧ Kd.N (Kd.slice 3 (Kd.int .i64)) 37 w' w.heap.size (fun k_ => (w.heap.size ≤ k_)) v0_ r ∧ Below w.heap.size w w' := by
 have HB := qaa.mk (Below.refl w.heap.size w)
 have H : (some (([(([0, 1] : List Int)), (([1, 2] : List Int)), (([2, 3] : List Int))] : List (List Int)))) = some r := h
 clear h
 obtain ⟨y344, qlS⟩ : ∃ y_ : List Int, y_ = (([0, 1] : List Int)) := ⟨_, rfl⟩
 replace H : (some (([y344, (([1, 2] : List Int)), (([2, 3] : List Int))] : List (List Int)))) = some r := by first | (rw [qlS]; with_reducible exact H) | (have H2_ := (Option.bind_some _ _).symm.trans H; rw [qlS]; with_reducible exact H2_) | (have H2_ := (Option.bind_some _ _).symm.trans H; with_reducible exact H2_) | with_reducible exact H | (rw [qlS]; exact H) | exact H
 have qrb := qaa.mk qlS
 clear qlS
 obtain ⟨y347, qlT⟩ : ∃ y_ : List Int, y_ = (([1, 2] : List Int)) := ⟨_, rfl⟩
 replace H : (some (([y344, y347, (([2, 3] : List Int))] : List (List Int)))) = some r := by first | (rw [qlT]; with_reducible exact H) | (have H2_ := (Option.bind_some _ _).symm.trans H; rw [qlT]; with_reducible exact H2_) | (have H2_ := (Option.bind_some _ _).symm.trans H; with_reducible exact H2_) | with_reducible exact H | (rw [qlT]; exact H) | exact H
 have qrc := qaa.mk qlT
 clear qlT
 obtain ⟨y350, qlU⟩ : ∃ y_ : List Int, y_ = (([2, 3] : List Int)) := ⟨_, rfl⟩
 replace H : (some (([y344, y347, y350] : List (List Int)))) = some r := by first | (rw [qlU]; with_reducible exact H) | (have H2_ := (Option.bind_some _ _).symm.trans H; rw [qlU]; with_reducible exact H2_) | (have H2_ := (Option.bind_some _ _).symm.trans H; with_reducible exact H2_) | with_reducible exact H | (rw [qlU]; exact H) | exact H
 have qrd := qaa.mk qlU
 clear qlU
 obtain ⟨y353, qlV⟩ : ∃ y_ : List (List Int), y_ = (([y344, y347, y350] : List (List Int))) := ⟨_, rfl⟩
 replace H : (some y353) = some r := by first | (rw [qlV]; with_reducible exact H) | (have H2_ := (Option.bind_some _ _).symm.trans H; rw [qlV]; with_reducible exact H2_) | (have H2_ := (Option.bind_some _ _).symm.trans H; with_reducible exact H2_) | with_reducible exact H | (rw [qlV]; exact H) | exact H
 have qre := qaa.mk qlV
 clear qlV
 obtain rfl := Option.some.inj H
 go_enter Try.func63, Try.ntmps63
 go_wp2_with (first | ((with_reducible refine qaN (N := 1) rfl ?_); refine Kd.R_lit (Kd.int .i64) _ 3 ?hg (N := 1) ?hd (xs := ([0, 1] : List Int)) (inner := [.int .i64 0, .int .i64 1]) (ok := fun _ => True) (okp := fun _ => True) ?hr ?hp (fun _ hk => hk) trivial (Below.refl _ _) (Nat.le_refl _) (by simp) ?_; (case hd => rfl); (case hg => rfl); (case hr => first | (go_simp; done) | (go_simp; rfl)); (case hp => exact (Reps.one (show Kd.M (Kd.int .i64) _ _ _ 0 [.int .i64 0] from rfl) (Reps.one (show Kd.M (Kd.int .i64) _ _ _ 1 [.int .i64 1] from rfl) (Reps.none _ _)))); intro v345 w1 ho2 hb hg_ hnew_; clear hg_ hnew_; (first | rw [← qrb.out] at ho2 | (simp only [Int.reduceToNat] at ho2; rw [← qrb.out] at ho2)); have n0_ := qaa.mk (Kd.R_lower (Kd.R_newM (M := fun k_ => (w.heap.size ≤ k_)) ho2 (qam (by repeat (first | (with_reducible first | exact HB.out | apply qaf | apply qad | apply qah) | exact HB.out))) (fun k_ h_ => h_)) (qam (by repeat (first | (with_reducible first | exact HB.out | apply qaf | apply qad | apply qah) | exact HB.out)))); have n1_ := qaa.mk (qar (by repeat (first | (with_reducible first | exact HB.out | apply qaf | apply qad | apply qah) | exact HB.out)) hb); clear HB; have qgF := n0_; have HB := n1_; clear n0_ n1_; clear hb ho2) | ((with_reducible refine qaN (N := 2) rfl ?_); refine Kd.R_lit (Kd.int .i64) _ 3 ?hg (N := 2) ?hd (xs := ([1, 2] : List Int)) (inner := [.int .i64 1, .int .i64 2]) (ok := fun _ => True) (okp := fun _ => True) ?hr ?hp (fun _ hk => hk) trivial (Below.refl _ _) (Nat.le_refl _) (by simp) ?_; (case hd => rfl); (case hg => rfl); (case hr => first | (go_simp; done) | (go_simp; rfl)); (case hp => exact (Reps.one (show Kd.M (Kd.int .i64) _ _ _ 1 [.int .i64 1] from rfl) (Reps.one (show Kd.M (Kd.int .i64) _ _ _ 2 [.int .i64 2] from rfl) (Reps.none _ _)))); intro v348 w3 ho4 hb hg_ hnew_; clear hg_ hnew_; (first | rw [← qrc.out] at ho4 | (simp only [Int.reduceToNat] at ho4; rw [← qrc.out] at ho4)); have n0_ := qaa.mk (Kd.R_elder' (by (with_reducible repeat (first | apply Kd.R_alloc | apply Kd.R_drewN | apply Kd.R_drew)); exact qgF.out) (Kd.R_base ho4) hb); have n1_ := qaa.mk (Kd.R_lower (Kd.R_new' (Kd.R_newM (M := fun k_ => (w.heap.size ≤ k_)) ho4 (qam (by repeat (first | (with_reducible first | exact HB.out | apply qaf | apply qad | apply qah) | exact HB.out))) (fun k_ h_ => h_)) (Kd.R_lt (by (with_reducible repeat (first | apply Kd.R_alloc | apply Kd.R_drewN | apply Kd.R_drew)); exact qgF.out))) (qam (by repeat (first | (with_reducible first | exact HB.out | apply qaf | apply qad | apply qah) | exact HB.out)))); have n2_ := qaa.mk (qar (by repeat (first | (with_reducible first | exact HB.out | apply qaf | apply qad | apply qah) | exact HB.out)) hb); clear qgF; clear HB; have qgF := n0_; have qiG := n1_; have HB := n2_; clear n0_ n1_ n2_; clear hb ho4) | ((with_reducible refine qaN (N := 3) rfl ?_); refine Kd.R_lit (Kd.int .i64) _ 3 ?hg (N := 3) ?hd (xs := ([2, 3] : List Int)) (inner := [.int .i64 2, .int .i64 3]) (ok := fun _ => True) (okp := fun _ => True) ?hr ?hp (fun _ hk => hk) trivial (Below.refl _ _) (Nat.le_refl _) (by simp) ?_; (case hd => rfl); (case hg => rfl); (case hr => first | (go_simp; done) | (go_simp; rfl)); (case hp => exact (Reps.one (show Kd.M (Kd.int .i64) _ _ _ 2 [.int .i64 2] from rfl) (Reps.one (show Kd.M (Kd.int .i64) _ _ _ 3 [.int .i64 3] from rfl) (Reps.none _ _)))); intro v351 w5 ho6 hb hg_ hnew_; clear hg_ hnew_; (first | rw [← qrd.out] at ho6 | (simp only [Int.reduceToNat] at ho6; rw [← qrd.out] at ho6)); have n0_ := qaa.mk (Kd.R_elder' (by (with_reducible repeat (first | apply Kd.R_alloc | apply Kd.R_drewN | apply Kd.R_drew)); exact qgF.out) (Kd.R_base ho6) hb); have n1_ := qaa.mk (Kd.R_elder' (by (with_reducible repeat (first | apply Kd.R_alloc | apply Kd.R_drewN | apply Kd.R_drew)); exact qiG.out) (Kd.R_base ho6) hb); have n2_ := qaa.mk (Kd.R_lower (Kd.R_new' (Kd.R_new' (Kd.R_newM (M := fun k_ => (w.heap.size ≤ k_)) ho6 (qam (by repeat (first | (with_reducible first | exact HB.out | apply qaf | apply qad | apply qah) | exact HB.out))) (fun k_ h_ => h_)) (Kd.R_lt (by (with_reducible repeat (first | apply Kd.R_alloc | apply Kd.R_drewN | apply Kd.R_drew)); exact qgF.out))) (Kd.R_lt (by (with_reducible repeat (first | apply Kd.R_alloc | apply Kd.R_drewN | apply Kd.R_drew)); exact qiG.out))) (qam (by repeat (first | (with_reducible first | exact HB.out | apply qaf | apply qad | apply qah) | exact HB.out)))); have n3_ := qaa.mk (qar (by repeat (first | (with_reducible first | exact HB.out | apply qaf | apply qad | apply qah) | exact HB.out)) hb); clear qgF; clear qiG; clear HB; have qgF := n0_; have qiG := n1_; have qm9 := n2_; have HB := n3_; clear n0_ n1_ n2_ n3_; clear hb ho6; obtain ⟨Ao7, co7, eo7⟩ := Kd.R_slice qgF.out; subst eo7; obtain ⟨Ao8, co8, eo8⟩ := Kd.R_slice qiG.out; subst eo8; obtain ⟨Ao9, co9, eo9⟩ := Kd.R_slice qm9.out; subst eo9) | ((with_reducible refine qaN (N := 4) rfl ?_); refine Kd.N_lit (Kd.slice 3 (Kd.int .i64)) _ 37 ?hg (N' := 4) ?hd (xs := ([y344, y347, y350] : List (List Int))) (inner := [.slice Ao7 y344.length co7, .slice Ao8 y347.length co8, .slice Ao9 y350.length co9]) (ok := (fun k_ => (w.heap.size ≤ k_))) (okp := (fun k_ => (w.heap.size ≤ k_))) ?hr ?hp (fun _ hk => hk) ((show ∀ k_, w5.heap.size ≤ k_ → (fun k_ => (w.heap.size ≤ k_)) k_ from fun k_ hk => (Nat.le_trans (qam (by repeat (first | (with_reducible first | exact HB.out | apply qaf | apply qad | apply qah) | exact HB.out))) hk)) _ (Nat.le_refl _)) (Below.refl _ _) (Nat.le_refl _) (by simp) ?_; (case hd => rfl); (case hg => rfl); (case hr => first | (go_simp; done) | (go_simp; rfl)); (case hp => exact (Reps.one (show Kd.FK (Kd.slice 3 (Kd.int .i64)) _ _ y344 [.slice Ao7 y344.length co7] from (Kd.FK_slice_mk (Kd.R_reads' (Kd.R_mono (ok' := (fun k_ => (w.heap.size ≤ k_))) (qgF.out) (fun k_ hk => hk.1.1.1))).2.1 (Kd.R_F (Kd.R_mono (ok' := (fun k_ => (w.heap.size ≤ k_))) (qgF.out) (fun k_ hk => hk.1.1.1))))) (Reps.one (show Kd.FK (Kd.slice 3 (Kd.int .i64)) _ _ y347 [.slice Ao8 y347.length co8] from (Kd.FK_slice_mk (Kd.R_reads' (Kd.R_mono (ok' := (fun k_ => (w.heap.size ≤ k_))) (qiG.out) (fun k_ hk => hk.1.1.1))).2.1 (Kd.R_F (Kd.R_mono (ok' := (fun k_ => (w.heap.size ≤ k_))) (qiG.out) (fun k_ hk => hk.1.1.1))))) (Reps.one (show Kd.FK (Kd.slice 3 (Kd.int .i64)) _ _ y350 [.slice Ao9 y350.length co9] from (Kd.FK_slice_mk (Kd.R_reads' (Kd.R_mono (ok' := (fun k_ => (w.heap.size ≤ k_))) (qm9.out) (fun k_ hk => hk.1.1.1))).2.1 (Kd.R_F (Kd.R_mono (ok' := (fun k_ => (w.heap.size ≤ k_))) (qm9.out) (fun k_ hk => hk.1.1.1))))) (Reps.none _ _))))); intro v354 w10 ho11 hb hg_ hnew_; clear hg_ hnew_; (first | rw [← qre.out] at ho11 | (simp only [Int.reduceToNat] at ho11; rw [← qre.out] at ho11)); have n0_ := qaa.mk (Kd.N_lower ho11 (qam (by repeat (first | (with_reducible first | exact HB.out | apply qaf | apply qad | apply qah) | exact HB.out)))); have n1_ := qaa.mk (qar (by repeat (first | (with_reducible first | exact HB.out | apply qaf | apply qad | apply qah) | exact HB.out)) hb); clear HB; clear qgF; clear qiG; clear qm9; have quT := n0_; have HB := n1_; clear n0_ n1_; clear hb ho11))
 go_ret
 exact ⟨_, by first | rfl | (simp [qaG, qaH] <;> rfl) | (simp [*, qaG, qaH] <;> rfl), by (with_reducible repeat (first | apply Kd.N_alloc | apply Kd.N_drewN | apply Kd.N_drew)); exact quT.out, by repeat (first | (with_reducible first | exact HB.out | apply qaf | apply qad | apply qah) | exact HB.out)⟩
end Go.Proofs.Ytmhomdohhihlcaa.P
namespace Go.Proofs.Ytmhomdohhihlcaa.P
open Go.RowKit Go.Proofs.YtmhomdohhihlcaaW.PrintWords Go.Proofs.YtmhomdohhihlcaaW.PrintLast Go.Proofs.YtmhomdohhihlcaaW.PrintMore
set_option maxRecDepth 100000
def qkP : List S68 := [⟨30, ⟨2, 2⟩⟩, ⟨20, ⟨3, 4⟩⟩, ⟨10, ⟨4, 6⟩⟩]
def qlX : List (List S25) := [[⟨60, 70⟩, ⟨30, 40⟩], [⟨20, 30⟩, ⟨70, 80⟩]]
def qnm : List S25 := [⟨45, 50⟩, ⟨50, 55⟩]
def qjQ : S39 := ⟨[100, 50, 20], [800, 700, 500], [0, 1, 2], 60, 1⟩
def qjT : S39 := ⟨[60, 60], [500, 500], [1, 1], 50, 0⟩
def qo4 : List S136 := [⟨50, 8⟩, ⟨30, 5⟩, ⟨20, 1⟩, ⟨10, 4⟩]
def ql3 : List (List Int) := [[0, 1], [1, 2], [2, 3]]
def qhI : List (List (List Int)) := [[[90, 80], [10, 10]], [[0, 0], [0, 0]]]
theorem qpM : qeP.f = some qkP := by kernel_rfl
theorem qqh : qe6.f = some qlX := by kernel_rfl
theorem qrn : qfj.f = some qnm := by kernel_rfl
theorem qpy : qdp.f = some ([100, 50, 20], [800, 700, 500], [0, 1, 2], 60, 1) := by kernel_rfl
theorem qkS : qdX.f = some ([qjQ, qjT], [40, 80], qhI) := by kernel_rfl
theorem qti : qfr.f = some qo4 := by kernel_rfl
theorem qp1 : qe7.f = some ql3 := by kernel_rfl
theorem qri : qaD.f 40 qkP 4 6 = some (10, 30, 0) := by kernel_rfl
theorem qrv : qaP.f 20 [100, 50, 20] [800, 700, 500] [0, 1, 2] 60 1 [30, 30] [90, 80] = some ([40, 78], 0) := by kernel_rfl
theorem qqc : qcz.f 40 [qjQ, qjT] [40, 80] qhI = some (7, 0) := by kernel_rfl
theorem qql : qbP.f 40 [qjQ, qjT] [40, 80] qhI 8 = some (1, 1, 1, 0) := by kernel_rfl
theorem qqg : qcm.f 10 [40, 78] [40, 78] = some true := by kernel_rfl
theorem qqk : qcm.f 10 [0, 2] [0, 2] = some true := by kernel_rfl
theorem qng : qb5.f 10 [⟨38, 75⟩, ⟨25, 62⟩] [⟨38, 75⟩, ⟨25, 62⟩] = some true := by kernel_rfl
theorem qqd : qaI.f qo4 ql3 2 = some ([0, 2], 110, 18, 0) := by kernel_rfl
theorem qpt : qaz.f 20 qlX qnm = some ([⟨38, 75⟩, ⟨25, 62⟩], 0) := by kernel_rfl
end Go.Proofs.Ytmhomdohhihlcaa.P
namespace Go.Proofs.Ytmhomdohhihlcaa.P
open Go.RowKit Go.Proofs.YtmhomdohhihlcaaW.PrintWords Go.Proofs.YtmhomdohhihlcaaW.PrintLast Go.Proofs.YtmhomdohhihlcaaW.PrintMore
attribute [local go_sem high] qpa
def qdg.f : Option Bool := some true
structure qpI (p : Prop) : Prop where
 out : p
theorem V_C {α : Type} {d : Kd α} {e : Nat} {w : World} {b : Nat} {ok : Nat → Prop} {v : Value} {xs : List α} (h : Kd.V d e w b ok v xs) : ∃ A c, v = .slice A xs.length c ∧ xs.length ≤ c ∧ Kd.C d w A xs.length xs := by
 obtain ⟨A, c, hv, hl, hf⟩ := h
 exact ⟨A, c, hv, hl, Kd.F_now hf⟩
theorem qnk {W : World} {o : Obj} {k : Nat} (h : W.heap.size = k) : (W.alloc o).heap[k]? = some o := by subst h; exact World.alloc_heap_new W o
theorem qmU {W : World} {g : Nat} {a b : Int} (h : W.heap[g]? = some (.cells #[.int .i64 a, .int .i64 b] 3 (0, 0))) : Kd.C (Kd.int .i64) W (some ⟨g, 0, none⟩) 2 [a, b] := by
 refine ⟨rfl, by decide, fun _ => ⟨_, rfl, fun j p hj => ⟨[.int .i64 p], rfl, rfl, fun i u hu => ?_⟩⟩⟩
 have hj2 : j < 2 := (List.getElem?_eq_some_iff.1 hj).1
 have hi : i = 0 := by have := (List.getElem?_eq_some_iff.1 hu).1; simpa using this
 subst hi
 have hu2 : Value.int .i64 p = u := by simpa using hu
 rw [qhG, qai h]
 subst hu2
 match j, hj2, hj with
 | 0, _, hj => cases hj; rfl
 | 1, _, hj => cases hj; rfl
theorem qrm {W : World} {g : Nat} {a b a' b' : Int} (h : W.heap[g]? = some (.cells #[.int .i64 a, .int .i64 b, .int .i64 a', .int .i64 b'] 25 (0, 0))) : Kd.C k25 W (some ⟨g, 0, none⟩) 2 [⟨a, b⟩, ⟨a', b'⟩] := by
 refine ⟨rfl, by decide, fun _ => ⟨_, rfl, fun j p hj => ⟨[.int .i64 p.f0, .int .i64 p.f1], rfl, qnz _ _, fun i u hu => ?_⟩⟩⟩
 have hj2 : j < 2 := (List.getElem?_eq_some_iff.1 hj).1
 have hi : i < 2 := (List.getElem?_eq_some_iff.1 hu).1
 rw [qhG, qai h]
 match j, hj2, hj, i, hi, hu with
 | 0, _, hj, 0, _, hu => cases hj; cases hu; rfl
 | 0, _, hj, 1, _, hu => cases hj; cases hu; rfl
 | 1, _, hj, 0, _, hu => cases hj; cases hu; rfl
 | 1, _, hj, 1, _, hu => cases hj; cases hu; rfl
set_option maxHeartbeats 8000000 in
set_option maxRecDepth 100000 in
theorem qdg.calls (r : Bool) (w : World) (h : qdg.f = some r) :
  Calls Try.prog 21 #[] w fun e w' => e = .returned (.bool r) ∧ Below w.heap.size w w' := by
 obtain rfl : true = r := Option.some.inj h
 clear h
 have hu25 := Try.underlying25
 go_enter Try.func21, Try.ntmps21
 have B0 := Below.refl w.heap.size w
 go_wp2_with (first
  | (go_at_call 59; refine (qeP.calls _ _ qpM).mono ?_; rintro e w1 ⟨v, rfl, hv, hb1⟩; obtain ⟨A1, c1, rfl, hc1, hC1⟩ := Kd.R_reads hv; have B1 := B0.trans (hb1.mono B0.size); clear hv hb1)
  | (go_at_call 19; refine (qaD.calls 40 A1 c1 qkP 4 6 10 30 0 _ hC1 hc1 qri).mono ?_; rintro e w2 ⟨rfl, hb2⟩; have B2 := B1.trans (hb2.mono B1.size); clear hC1 hc1 hb2)
  | (go_at_call 61; refine (qe6.calls _ _ qqh).mono ?_; rintro e w3 ⟨v, rfl, hv, hb3⟩; obtain ⟨A3, c3, rfl, hc3, hC3⟩ := Kd.N_reads hv; have B3 := (qaf B2 _).trans (hb3.mono (qaf B2 _).size); have K3 := qan (World.alloc_heap_new w2 _) hb3; clear hv)
  | (go_at_call 60; refine (qfj.calls _ _ qrn).mono ?_; rintro e w4 ⟨v, rfl, hv, hb4⟩; obtain ⟨A4, c4, rfl, hc4, hC4⟩ := Kd.R_reads hv; have B4 := B3.trans (hb4.mono B3.size); have hC3' := Kd.C_below hC3 hb4; have K4 := qan K3 hb4; clear hv)
  | (go_at_call 22; refine (qaz.calls 20 A3 c3 qlX A4 c4 qnm [⟨38, 75⟩, ⟨25, 62⟩] 0 _ hC3' hc3 hC4 hc4 qpt).mono ?_; rintro e w5 ⟨v, rfl, hv, hb5⟩; obtain ⟨A5, c5, rfl, hc5, hC5⟩ := V_C hv; have B5 := B4.trans (hb5.mono B4.size); have K5 := qan K4 hb5; clear K3 K4 hC3 hC3' hC4 hc3 hc4 hv hb3 hb4 hb5)
  | (go_at_call 57; refine (qdp.calls _ _ _ _ _ _ qpy).mono ?_; rintro e w6 ⟨u0, u1, u2, rfl, h0, h1, h2, hb6⟩; obtain ⟨A60, c60, rfl, hc60, hC60⟩ := Kd.R_reads h0; obtain ⟨A61, c61, rfl, hc61, hC61⟩ := Kd.R_reads h1; obtain ⟨A62, c62, rfl, hc62, hC62⟩ := Kd.R_reads h2; have B6 := B5.trans (hb6.mono B5.size); have K6 := qan K5 hb6; have hC56 := Kd.C_below hC5 hb6; clear K5 h0 h1 h2 hC5 hb6)
  | (go_at_call 25; refine (qaP.calls 20 A60 c60 [100, 50, 20] A61 c61 [800, 700, 500] A62 c62 [0, 1, 2] 60 1 _ 2 [30, 30] _ 2 [90, 80] [40, 78] 0 _ ?q1 hc60 ?q2 hc61 ?q3 hc62 ?q4 (Nat.le_refl 2) ?q5 (Nat.le_refl 2) qrv).mono ?_; (case q1 => exact Kd.C_alloc (Kd.C_alloc hC60 _) _); (case q2 => exact Kd.C_alloc (Kd.C_alloc hC61 _) _); (case q3 => exact Kd.C_alloc (Kd.C_alloc hC62 _) _); (case q4 => exact qmU (qab (World.alloc_heap_new w6 _) _)); (case q5 => refine qmU ?_; (have := World.alloc_heap_new (w6.alloc (.cells #[.int .i64 30, .int .i64 30] 3)) (.cells #[.int .i64 90, .int .i64 80] 3)); rwa [World.size_alloc] at this); rintro e w7 ⟨v, rfl, hv, hb7⟩; obtain ⟨A7, c7, rfl, hc7, hC7⟩ := V_C hv; have B7 := (qaf (qaf B6 _) _).trans (hb7.mono (qaf (qaf B6 _) _).size); have K7 := qan (qab (qab K6 _) _) hb7; have hC57 := Kd.C_below (Kd.C_alloc (Kd.C_alloc hC56 _) _) hb7; clear hC60 hC61 hC62 hc60 hc61 hc62 hC56 K6 hv hb7)
  | (go_at_call 58; refine (qdX.calls _ _ _ _ qkS).mono ?_; rintro e w8 ⟨u0, u1, u2, rfl, h0, h1, h2, hb8⟩; obtain ⟨A80, c80, rfl, hc80, hC80⟩ := Kd.N_reads h0; obtain ⟨A81, c81, rfl, hc81, hC81⟩ := Kd.R_reads h1; obtain ⟨A82, c82, rfl, hc82, hC82⟩ := Kd.N_reads h2; have B8 := B7.trans (hb8.mono B7.size); have K8 := qan K7 hb8; have hC58 := Kd.C_below hC57 hb8; have hC78 := Kd.C_below hC7 hb8; clear h0 h1 h2 hC57 hC7 K7 hb8)
  | (go_at_call 28; refine (qcz.calls 40 A80 c80 [qjQ, qjT] A81 c81 [40, 80] A82 c82 qhI 7 0 _ hC80 hc80 hC81 hc81 hC82 hc82 qqc).mono ?_; rintro e w9 ⟨rfl, hb9⟩; have B9 := B8.trans (hb9.mono B8.size); have K9 := qan K8 hb9; have hC59 := Kd.C_below hC58 hb9; have hC79 := Kd.C_below hC78 hb9; clear hC80 hC81 hC82 hc80 hc81 hc82 hC58 hC78 K8 hb9))
 have hSb : ∀ z : World, Below w9.heap.size w9 z → z.cell? ⟨w2.heap.size, 0, none⟩ = some (.int .i64 10) ∧ z.cell? ⟨w2.heap.size, 1, none⟩ = some (.int .i64 30) ∧ Below w9.heap.size w9 z := fun z hz =>
  ⟨(qai (qan K9 hz) 0).trans rfl, (qai (qan K9 hz) 1).trans rfl, hz⟩
 have HSb := qaa.mk hSb
 have H59 := qaa.mk hC59
 have H79 := qaa.mk hC79
 have HB9 := qaa.mk B9
 clear hSb hC59 hC79 B0 B1 B2 B3 B4 B5 B6 B7 B8 B9 K9
 go_region_held3 (fun z => z.cell? ⟨w2.heap.size, 0, none⟩ = some (.int .i64 10) ∧ z.cell? ⟨w2.heap.size, 1, none⟩ = some (.int .i64 30) ∧ Below w9.heap.size w9 z)
  (first | exact HSb.out _ (qbs (Below.refl _ _)) | (refine HSb.out _ (qaf ?hk _); (case hk => exact (And.right (And.right ‹_ ∧ _ ∧ Below w9.heap.size w9 _›)))) | (refine HSb.out _ (qad ?hk _); (case hk => exact (And.right (And.right ‹_ ∧ _ ∧ Below w9.heap.size w9 _›)))) | (refine HSb.out _ (Below.trans ?hk1 (hbz.mono ?hk2)); (case hk1 => exact (And.right (And.right ‹_ ∧ _ ∧ Below w9.heap.size w9 _›))); (case hk2 => exact (And.right (And.right ‹_ ∧ _ ∧ Below w9.heap.size w9 _›)).size)))
  (first
   | (go_at_call 43; refine (qaS.calls _ _ _ _ _ rfl).mono ?_; rintro e wz ⟨rfl, hbz⟩)
   | (go_at_call 24; refine (qb5.calls 10 A5 c5 [⟨38, 75⟩, ⟨25, 62⟩] _ 2 [⟨38, 75⟩, ⟨25, 62⟩] true _ ?q1 hc5 ?q2 (Nat.le_refl 2) qng).mono ?_; (case q1 => refine Kd.C_below H59.out ?hk; (case hk => exact (And.right (And.right ‹_ ∧ _ ∧ Below w9.heap.size w9 _›)))); (case q2 => refine qrm ?_; exact World.alloc_heap_new _ _); rintro e wz ⟨rfl, ⟨nd, rfl⟩⟩)
   | (go_at_call 27; refine (qcm.calls 10 A7 c7 [40, 78] _ 2 [40, 78] true _ ?q1 hc7 ?q2 (Nat.le_refl 2) qqg).mono ?_; (case q1 => refine Kd.C_below H79.out ?hk; (case hk => exact (And.right (And.right ‹_ ∧ _ ∧ Below w9.heap.size w9 _›)))); (case q2 => refine qmU (qnk ?hs); (case hs => first | rfl | exact World.size_alloc _ _)); rintro e wz ⟨rfl, ⟨nd, rfl⟩⟩))
 go_wp2_with (go_at_call 58; refine qpI.out ?_)
 refine qpI.mk ?_
 refine (qdX.calls _ _ _ _ qkS).mono ?_
 rintro e wa ⟨u0, u1, u2, rfl, h0, h1, h2, hba⟩
 have Ba : Below w.heap.size w wa := by
  refine Below.trans ?_ (hba.mono ?_)
  ·
   exact HB9.out.trans ((And.right (And.right ‹_ ∧ _ ∧ Below w9.heap.size w9 _›)).mono HB9.out.size)
  ·
   exact (HB9.out.trans ((And.right (And.right ‹_ ∧ _ ∧ Below w9.heap.size w9 _›)).mono HB9.out.size)).size
 obtain ⟨A80, c80, rfl, hc80, hC80⟩ := Kd.N_reads h0
 obtain ⟨A81, c81, rfl, hc81, hC81⟩ := Kd.R_reads h1
 obtain ⟨A82, c82, rfl, hc82, hC82⟩ := Kd.N_reads h2
 clear h0 h1 h2 hba
 go_wp2_with (first
  | (go_at_call 32; refine (qbP.calls 40 A80 c80 [qjQ, qjT] A81 c81 [40, 80] A82 c82 qhI 8 1 1 1 0 _ hC80 hc80 hC81 hc81 hC82 hc82 qql).mono ?_; rintro e wb ⟨rfl, hbb⟩; have Bb := Ba.trans (hbb.mono Ba.size); clear hC80 hC81 hC82 hc80 hc81 hc82 hbb)
  | (go_at_call 62; refine (qfr.calls _ _ qti).mono ?_; rintro e wc ⟨v, rfl, hv, hbc⟩; obtain ⟨Ac, cc, rfl, hcc, hCc⟩ := Kd.R_reads hv; have Bc := Bb.trans (hbc.mono Bb.size); clear hv hbc)
  | (go_at_call 63; refine (qe7.calls _ _ qp1).mono ?_; rintro e wd ⟨v, rfl, hv, hbd⟩; obtain ⟨Ad, cd, rfl, hcd, hCd⟩ := Kd.N_reads hv; have Bd := Bc.trans (hbd.mono Bc.size); have hCc' := Kd.C_below hCc hbd; clear hv hbd hCc)
  | (go_at_call 40; refine (qaI.calls Ac cc qo4 Ad cd ql3 2 [0, 2] 110 18 0 _ hCc' hcc hCd hcd qqd).mono ?_; rintro e we ⟨v, rfl, hv, hbe⟩; obtain ⟨Ae, ce, rfl, hce, hCe⟩ := V_C hv; have Be := Bd.trans (hbe.mono Bd.size); clear hv hbe hCc' hCd hcc hcd)
  | (go_at_call 27; refine (qcm.calls 10 Ae ce [0, 2] _ 2 [0, 2] true _ ?q1 hce ?q2 (Nat.le_refl 2) qqk).mono ?_; (case q1 => exact Kd.C_alloc hCe _); (case q2 => refine qmU (qnk ?hs); (case hs => rfl)); rintro e wf ⟨rfl, ⟨ndf, rfl⟩⟩))
 go_ret
 exact ⟨rfl, qad (qaf Be _) _⟩
end Go.Proofs.Ytmhomdohhihlcaa.P
namespace Go.Proofs.Ytmhomdohhihlcaa.P
open Go.RowKit Go.Proofs.YtmhomdohhihlcaaW.PrintWords Go.Proofs.YtmhomdohhihlcaaW.PrintLast Go.Proofs.YtmhomdohhihlcaaW.PrintMore
attribute [local go_sem] qb7 qb6 qcr qcq qbR qbS qb8 qb4
attribute [local go_sem high] qpa
def qec.f (k : Nat) (l0 : List (S68)) (a1_0 : Int) (a1_1 : Int) : Option (Bool) := (qaD.f k l0 a1_0 a1_1).bind fun qjH => ((qal.f k l0 a1_0 a1_1).bind fun qhj => (if (qjH.1 == qhj.1 && (qjH.2.1 == qhj.2.1)) = true then (if qjH.2.2 = qhj.2.2 then ((qdg.f).bind fun t365 => (some t365)) else (some false)) else (some false)))
set_option maxHeartbeats 8000000 in
set_option maxRecDepth 100000 in
theorem qec.calls (k : Nat) (A0 : Option Addr) (c0 : Nat) (l0 : List (S68)) (a1_0 : Int) (a1_1 : Int) (r : Bool) (w : World) (hr0 : Kd.C k68 w A0 l0.length l0) (hc0 : l0.length ≤ c0) (h : qec.f k l0 a1_0 a1_1 = some r) :
  Calls Try.prog 3 #[.slice A0 l0.length c0, .agg #[.int .i64 a1_0, .int .i64 a1_1]] w fun e w' => e = .returned (.bool r) ∧ Below w.heap.size w w' := by
 have hu23 := Try.underlying23
 have hu25 := Try.underlying25
 have HR0 := qaa.mk hr0
 have HC0 := qaa.mk hc0
 clear hr0 hc0
 have HB := qaa.mk (Below.refl w.heap.size w)
 have H : ((qaD.f k l0 a1_0 a1_1).bind fun qjH => ((qal.f k l0 a1_0 a1_1).bind fun qhj => (if (qjH.1 == qhj.1 && (qjH.2.1 == qhj.2.1)) = true then (if qjH.2.2 = qhj.2.2 then ((qdg.f).bind fun t365 => (some t365)) else (some false)) else (some false)))) = some r := h
 clear h
 replace H := Option.bind_eq_some_iff.mp H
 obtain ⟨⟨t357, t358, t359⟩, A30, H⟩ := H
 replace H : ((qal.f k l0 a1_0 a1_1).bind fun qhj => (if (t357 == qhj.1 && (t358 == qhj.2.1)) = true then (if t359 = qhj.2.2 then ((qdg.f).bind fun t365 => (some t365)) else (some false)) else (some false))) = some r := H
 have A3 := qaa.mk A30
 clear A30
 replace H := Option.bind_eq_some_iff.mp H
 obtain ⟨⟨t361, t362, t363⟩, A40, H⟩ := H
 replace H : (if (t357 == t361 && (t358 == t362)) = true then (if t359 = t363 then ((qdg.f).bind fun t365 => (some t365)) else (some false)) else (some false)) = some r := H
 have A4 := qaa.mk A40
 clear A40
 by_cases c5 : (t357 == t361 && (t358 == t362)) = true
 ·
  rw [if_pos c5] at H
  have c5b0 : (t357 == t361 && (t358 == t362)) = true := c5
  (try (have c5b1 : decide (t357 = t361 && (t358 == t362)) = true := by simpa using c5))
  (try (have c5b2 : (t357 == t361 && (t358 == t362)) = true := by simpa using c5))
  clear c5
  by_cases c6 : t359 = t363
  ·
   rw [if_pos c6] at H
   have c6b0 : (t359 == t363) = true := beq_iff_eq.mpr c6
   have c6b1 : (t359 != t363) = false := bne_eq_false_iff_eq.mpr c6
   clear c6
   replace H := Option.bind_eq_some_iff.mp H
   obtain ⟨t365, A70, H⟩ := H
   replace H : (some t365) = some r := H
   have A7 := qaa.mk A70
   clear A70
   obtain rfl := Option.some.inj H
   go_enter Try.func3, Try.ntmps3
   go_wp2_with (first | ((with_reducible refine qaN (N := 3) rfl ?_); refine qa9 ?hg (N := 3) ?hd (cs := #[.int .i64 a1_0, .int .i64 a1_1]) (t := 23) ?hr ?_; (case hd => rfl); (case hg => rfl); (case hr => first | (go_simp; done) | (go_simp; rfl)); intro qbX hg w8 hbox hb; have n0_ := qaa.mk (qar (by repeat (first | (with_reducible first | exact HB.out | apply qaf | apply qad | apply qah) | exact HB.out)) hb); have n1_ := qaa.mk (hbox); have n2_ := qaa.mk ((by rw [hg]; exact (qam (by repeat (first | (with_reducible first | exact HB.out | apply qaf | apply qad | apply qah) | exact HB.out))) : w.heap.size ≤ qbX)); have n3_ := qaa.mk ((by rw [hg]; exact (qam (by repeat (first | (with_reducible first | exact HB.out | apply qaf | apply qad | apply qah) | exact HB.out))) : w.heap.size ≤ qbX)); clear HB; have HB := n0_; have qbw := n1_; have qrf := n2_; have qdc := n3_; clear n0_ n1_ n2_ n3_; clear hb hbox hg; have qeA : w8.cell? ⟨qbX, 0, none⟩ = some (.int .i64 a1_0) := (qai qbw.out 0).trans rfl; have qeB : w8.cell? ⟨qbX, 1, none⟩ = some (.int .i64 a1_1) := (qai qbw.out 1).trans rfl; have qeC := qaj qbw.out 0; have qeD := qaj qbw.out 1) | ((with_reducible refine qaK (f := 19) rfl ?_); refine qbm (some 15) rfl rfl Try.func19 (by kernel_rfl) rfl #[.slice A0 l0.length c0, .int .i64 a1_0, .int .i64 a1_1] rfl (by (try simp only [List.map_toArray, List.map_cons, List.map_nil]); first | done | rfl | (simp only [List.length_drop, List.length_take]; rfl)) ?_; (with_reducible refine (qaD.calls k _ _ l0 a1_0 a1_1 t357 t358 t359 _ ?side1 ?side2 A3.out).mono ?_); (case side1 => repeat (first | exact (Kd.C_below HR0.out HB.out) | (with_reducible refine Kd.C_alloc ?_ _) | (with_reducible refine Kd.C_drewN ?_ _) | (with_reducible refine Kd.C_drew ?_))); (case side2 => exact HC0.out); rintro e w10 ⟨rfl, hb⟩; refine ⟨_, rfl, ?_⟩; have n0_ := qaa.mk (qan (g := qbX) (o := .cells #[.int .i64 a1_0, .int .i64 a1_1] 23 (0, 0)) (by (with_reducible repeat (first | refine qac ?_ _ | refine qae ?_ | refine qab ?_ _)); exact qbw.out) hb); have n1_ := qaa.mk (qar (by repeat (first | (with_reducible first | exact HB.out | apply qaf | apply qad | apply qah | refine qag ?_ qdc.out) | exact HB.out)) hb); clear qbw; clear HB; have qbw := n0_; have HB := n1_; clear n0_ n1_; (try clear hb); (try clear hb2); (try clear hk); (try clear hi)) | ((with_reducible refine qaN (N := 5) rfl ?_); refine qa9 ?hg (N := 5) ?hd (cs := #[.int .i64 0, .int .i64 0]) (t := 25) ?hr ?_; (case hd => rfl); (case hg => rfl); (case hr => first | (go_simp; done) | (go_simp; rfl)); intro qcw hg w11 hbox hb; have n0_ := qaa.mk (qan (g := qbX) (o := .cells #[.int .i64 a1_0, .int .i64 a1_1] 23 (0, 0)) (by (with_reducible repeat (first | refine qac ?_ _ | refine qae ?_ | refine qab ?_ _)); exact qbw.out) hb); have n1_ := qaa.mk (qar (by repeat (first | (with_reducible first | exact HB.out | apply qaf | apply qad | apply qah | refine qag ?_ qdc.out) | exact HB.out)) hb); have n2_ := qaa.mk (hbox); have n3_ := qaa.mk ((by rw [hg]; exact (qam (by repeat (first | (with_reducible first | exact HB.out | apply qaf | apply qad | apply qah | refine qag ?_ qdc.out) | exact HB.out))) : w.heap.size ≤ qcw)); have n4_ := qaa.mk ((by rw [hg]; exact (qam (by repeat (first | (with_reducible first | exact HB.out | apply qaf | apply qad | apply qah | refine qag ?_ qdc.out) | exact HB.out))) : w.heap.size ≤ qcw)); have n5_ := qaa.mk ((by rw [hg]; exact Nat.ne_of_lt (qaA (g := qbX) (o := .cells #[.int .i64 a1_0, .int .i64 a1_1] 23 (0, 0)) (by (with_reducible repeat (first | refine qac ?_ _ | refine qae ?_ | refine qab ?_ _)); exact qbw.out)) : qbX ≠ qcw)); have n6_ := qaa.mk ((by rw [hg]; exact Nat.ne_of_gt (qaA (g := qbX) (o := .cells #[.int .i64 a1_0, .int .i64 a1_1] 23 (0, 0)) (by (with_reducible repeat (first | refine qac ?_ _ | refine qae ?_ | refine qab ?_ _)); exact qbw.out)) : qcw ≠ qbX)); clear qbw; clear HB; have qbw := n0_; have HB := n1_; have qb1 := n2_; have qrg := n3_; have qef := n4_; have qel := n5_; have qhN := n6_; clear n0_ n1_ n2_ n3_ n4_ n5_ n6_; clear hb hbox hg; have quM := qhN.out; have quN := qel.out; have qgu : w11.cell? ⟨qcw, 0, none⟩ = some (.int .i64 0) := (qai qb1.out 0).trans rfl; have qgv : w11.cell? ⟨qcw, 1, none⟩ = some (.int .i64 0) := (qai qb1.out 1).trans rfl; have qgw := qaj qb1.out 0; have qgx := qaj qb1.out 1; have qf9 : w11.cell? ⟨qbX, 0, none⟩ = some (.int .i64 a1_0) := (qai qbw.out 0).trans rfl; have qga : w11.cell? ⟨qbX, 1, none⟩ = some (.int .i64 a1_1) := (qai qbw.out 1).trans rfl; have qgb := qaj qbw.out 0; have qgc := qaj qbw.out 1) | ((with_reducible refine qaK (f := 20) rfl ?_); refine qbm (some 24) rfl rfl Try.func20 (by kernel_rfl) rfl #[.slice A0 l0.length c0, .int .i64 a1_0, .int .i64 a1_1] rfl (by (try simp only [List.map_toArray, List.map_cons, List.map_nil]); first | done | rfl | (simp only [List.length_drop, List.length_take]; rfl)) ?_; (with_reducible refine (qal.calls k _ _ l0 a1_0 a1_1 t361 t362 t363 _ ?side1 ?side2 A4.out).mono ?_); (case side1 => exact Kd.C_below HR0.out (by repeat (first | (with_reducible first | exact HB.out | apply qaf | apply qad | apply qah | refine qag ?_ qdc.out | refine qag ?_ qef.out) | exact HB.out))); (case side2 => exact HC0.out); rintro e w15 ⟨rfl, hb⟩; refine ⟨_, rfl, ?_⟩; have n0_ := qaa.mk (qan (g := qbX) (o := .cells #[.int .i64 a1_0, .int .i64 a1_1] 23 (0, 0)) (by (with_reducible repeat (first | refine qac ?_ _ | refine qae ?_ | refine qab ?_ _)); refine qao ?_ qel.out _; (with_reducible repeat (first | refine qac ?_ _ | refine qae ?_ | refine qab ?_ _)); refine qao ?_ qel.out _; (with_reducible repeat (first | refine qac ?_ _ | refine qae ?_ | refine qab ?_ _)); exact qbw.out) hb); have n1_ := qaa.mk (qan (g := qcw) (o := .cells #[.int .i64 t357, .int .i64 t358] 25 (0, 0)) (by (with_reducible repeat (first | refine qac ?_ _ | refine qae ?_ | refine qab ?_ _)); refine qaw (cs := #[.int .i64 t357, .int .i64 0]) ?_ 1 _ rfl; (with_reducible repeat (first | refine qac ?_ _ | refine qae ?_ | refine qab ?_ _)); refine qaw (cs := #[.int .i64 0, .int .i64 0]) ?_ 0 _ rfl; (with_reducible repeat (first | refine qac ?_ _ | refine qae ?_ | refine qab ?_ _)); exact qb1.out) hb); have n2_ := qaa.mk (qar (by repeat (first | (with_reducible first | exact HB.out | apply qaf | apply qad | apply qah | refine qag ?_ qdc.out | refine qag ?_ qef.out) | exact HB.out)) hb); clear qbw; clear qb1; clear HB; have qbw := n0_; have qb1 := n1_; have HB := n2_; clear n0_ n1_ n2_; (try clear hb); (try clear hb2); (try clear hk); (try clear hi)) | ((with_reducible refine qaN (N := 7) rfl ?_); refine qa9 ?hg (N := 7) ?hd (cs := #[.int .i64 0, .int .i64 0]) (t := 25) ?hr ?_; (case hd => rfl); (case hg => rfl); (case hr => first | (go_simp; done) | (go_simp; rfl)); intro qdC hg w16 hbox hb; have n0_ := qaa.mk (qan (g := qbX) (o := .cells #[.int .i64 a1_0, .int .i64 a1_1] 23 (0, 0)) (by (with_reducible repeat (first | refine qac ?_ _ | refine qae ?_ | refine qab ?_ _)); exact qbw.out) hb); have n1_ := qaa.mk (qan (g := qcw) (o := .cells #[.int .i64 t357, .int .i64 t358] 25 (0, 0)) (by (with_reducible repeat (first | refine qac ?_ _ | refine qae ?_ | refine qab ?_ _)); exact qb1.out) hb); have n2_ := qaa.mk (qar (by repeat (first | (with_reducible first | exact HB.out | apply qaf | apply qad | apply qah | refine qag ?_ qdc.out | refine qag ?_ qef.out) | exact HB.out)) hb); have n3_ := qaa.mk (hbox); have n4_ := qaa.mk ((by rw [hg]; exact (qam (by repeat (first | (with_reducible first | exact HB.out | apply qaf | apply qad | apply qah | refine qag ?_ qdc.out | refine qag ?_ qef.out) | exact HB.out))) : w.heap.size ≤ qdC)); have n5_ := qaa.mk ((by rw [hg]; exact (qam (by repeat (first | (with_reducible first | exact HB.out | apply qaf | apply qad | apply qah | refine qag ?_ qdc.out | refine qag ?_ qef.out) | exact HB.out))) : w.heap.size ≤ qdC)); have n6_ := qaa.mk ((by rw [hg]; exact Nat.ne_of_lt (qaA (g := qbX) (o := .cells #[.int .i64 a1_0, .int .i64 a1_1] 23 (0, 0)) (by (with_reducible repeat (first | refine qac ?_ _ | refine qae ?_ | refine qab ?_ _)); exact qbw.out)) : qbX ≠ qdC)); have n7_ := qaa.mk ((by rw [hg]; exact Nat.ne_of_gt (qaA (g := qbX) (o := .cells #[.int .i64 a1_0, .int .i64 a1_1] 23 (0, 0)) (by (with_reducible repeat (first | refine qac ?_ _ | refine qae ?_ | refine qab ?_ _)); exact qbw.out)) : qdC ≠ qbX)); have n8_ := qaa.mk ((by rw [hg]; exact Nat.ne_of_lt (qaA (g := qcw) (o := .cells #[.int .i64 t357, .int .i64 t358] 25 (0, 0)) (by (with_reducible repeat (first | refine qac ?_ _ | refine qae ?_ | refine qab ?_ _)); exact qb1.out)) : qcw ≠ qdC)); have n9_ := qaa.mk ((by rw [hg]; exact Nat.ne_of_gt (qaA (g := qcw) (o := .cells #[.int .i64 t357, .int .i64 t358] 25 (0, 0)) (by (with_reducible repeat (first | refine qac ?_ _ | refine qae ?_ | refine qab ?_ _)); exact qb1.out)) : qdC ≠ qcw)); clear qbw; clear qb1; clear HB; have qbw := n0_; have qb1 := n1_; have HB := n2_; have qfg := n3_; have qrh := n4_; have qkH := n5_; have qf2 := n6_; have qhO := n7_; have qf3 := n8_; have qhP := n9_; clear n0_ n1_ n2_ n3_ n4_ n5_ n6_ n7_ n8_ n9_; clear hb hbox hg; have qqu := qhO.out; have qqv := qf2.out; have qEC := qhP.out; have qED := qf3.out; have qsN : w16.cell? ⟨qdC, 0, none⟩ = some (.int .i64 0) := (qai qfg.out 0).trans rfl; have qsO : w16.cell? ⟨qdC, 1, none⟩ = some (.int .i64 0) := (qai qfg.out 1).trans rfl; have qsP := qaj qfg.out 0; have qsQ := qaj qfg.out 1; have qgk : w16.cell? ⟨qcw, 0, none⟩ = some (.int .i64 t357) := (qai qb1.out 0).trans rfl; have qgl : w16.cell? ⟨qcw, 1, none⟩ = some (.int .i64 t358) := (qai qb1.out 1).trans rfl; have qgm := qaj qb1.out 0; have qgn := qaj qb1.out 1) | (go_at_call 21; (with_reducible refine (qdg.calls  t365 _ A7.out).mono ?_); rintro e w21 ⟨rfl, hb⟩; have n0_ := qaa.mk (qan (g := qbX) (o := .cells #[.int .i64 a1_0, .int .i64 a1_1] 23 (0, 0)) (by (with_reducible repeat (first | refine qac ?_ _ | refine qae ?_ | refine qab ?_ _)); refine qao ?_ qf2.out _; (with_reducible repeat (first | refine qac ?_ _ | refine qae ?_ | refine qab ?_ _)); refine qao ?_ qf2.out _; (with_reducible repeat (first | refine qac ?_ _ | refine qae ?_ | refine qab ?_ _)); exact qbw.out) hb); have n1_ := qaa.mk (qan (g := qcw) (o := .cells #[.int .i64 t357, .int .i64 t358] 25 (0, 0)) (by (with_reducible repeat (first | refine qac ?_ _ | refine qae ?_ | refine qab ?_ _)); refine qao ?_ qf3.out _; (with_reducible repeat (first | refine qac ?_ _ | refine qae ?_ | refine qab ?_ _)); refine qao ?_ qf3.out _; (with_reducible repeat (first | refine qac ?_ _ | refine qae ?_ | refine qab ?_ _)); exact qb1.out) hb); have n2_ := qaa.mk (qan (g := qdC) (o := .cells #[.int .i64 t361, .int .i64 t362] 25 (0, 0)) (by (with_reducible repeat (first | refine qac ?_ _ | refine qae ?_ | refine qab ?_ _)); refine qaw (cs := #[.int .i64 t361, .int .i64 0]) ?_ 1 _ rfl; (with_reducible repeat (first | refine qac ?_ _ | refine qae ?_ | refine qab ?_ _)); refine qaw (cs := #[.int .i64 0, .int .i64 0]) ?_ 0 _ rfl; (with_reducible repeat (first | refine qac ?_ _ | refine qae ?_ | refine qab ?_ _)); exact qfg.out) hb); have n3_ := qaa.mk (qar (by repeat (first | (with_reducible first | exact HB.out | apply qaf | apply qad | apply qah | refine qag ?_ qdc.out | refine qag ?_ qef.out | refine qag ?_ qkH.out) | exact HB.out)) hb); clear qbw; clear qb1; clear qfg; clear HB; have qbw := n0_; have qb1 := n1_; have qfg := n2_; have HB := n3_; clear n0_ n1_ n2_ n3_; (try clear hb); (try clear hb2); (try clear hk); (try clear hi)))
   go_ret
   exact ⟨by first | rfl | (simp [qaG, qaH] <;> rfl) | (simp [*, qaG, qaH] <;> rfl), by repeat (first | (with_reducible first | exact HB.out | apply qaf | apply qad | apply qah | refine qag ?_ qdc.out | refine qag ?_ qef.out | refine qag ?_ qkH.out) | exact HB.out)⟩
  rw [if_neg c6] at H
  have c6b0 : (t359 == t363) = false := beq_eq_false_iff_ne.mpr c6
  have c6b1 : (t359 != t363) = true := bne_iff_ne.mpr c6
  obtain rfl := Option.some.inj H
  go_enter Try.func3, Try.ntmps3
  go_wp2_with (first | ((with_reducible refine qaN (N := 3) rfl ?_); refine qa9 ?hg (N := 3) ?hd (cs := #[.int .i64 a1_0, .int .i64 a1_1]) (t := 23) ?hr ?_; (case hd => rfl); (case hg => rfl); (case hr => first | (go_simp; done) | (go_simp; rfl)); intro qbX hg w22 hbox hb; have n0_ := qaa.mk (qar (by repeat (first | (with_reducible first | exact HB.out | apply qaf | apply qad | apply qah) | exact HB.out)) hb); have n1_ := qaa.mk (hbox); have n2_ := qaa.mk ((by rw [hg]; exact (qam (by repeat (first | (with_reducible first | exact HB.out | apply qaf | apply qad | apply qah) | exact HB.out))) : w.heap.size ≤ qbX)); have n3_ := qaa.mk ((by rw [hg]; exact (qam (by repeat (first | (with_reducible first | exact HB.out | apply qaf | apply qad | apply qah) | exact HB.out))) : w.heap.size ≤ qbX)); clear HB; have HB := n0_; have qbw := n1_; have qrf := n2_; have qdc := n3_; clear n0_ n1_ n2_ n3_; clear hb hbox hg; have qic : w22.cell? ⟨qbX, 0, none⟩ = some (.int .i64 a1_0) := (qai qbw.out 0).trans rfl; have qid : w22.cell? ⟨qbX, 1, none⟩ = some (.int .i64 a1_1) := (qai qbw.out 1).trans rfl; have qie := qaj qbw.out 0; have qif := qaj qbw.out 1) | ((with_reducible refine qaK (f := 19) rfl ?_); refine qbm (some 15) rfl rfl Try.func19 (by kernel_rfl) rfl #[.slice A0 l0.length c0, .int .i64 a1_0, .int .i64 a1_1] rfl (by (try simp only [List.map_toArray, List.map_cons, List.map_nil]); first | done | rfl | (simp only [List.length_drop, List.length_take]; rfl)) ?_; (with_reducible refine (qaD.calls k _ _ l0 a1_0 a1_1 t357 t358 t359 _ ?side1 ?side2 A3.out).mono ?_); (case side1 => repeat (first | exact (Kd.C_below HR0.out HB.out) | (with_reducible refine Kd.C_alloc ?_ _) | (with_reducible refine Kd.C_drewN ?_ _) | (with_reducible refine Kd.C_drew ?_))); (case side2 => exact HC0.out); rintro e w24 ⟨rfl, hb⟩; refine ⟨_, rfl, ?_⟩; have n0_ := qaa.mk (qan (g := qbX) (o := .cells #[.int .i64 a1_0, .int .i64 a1_1] 23 (0, 0)) (by (with_reducible repeat (first | refine qac ?_ _ | refine qae ?_ | refine qab ?_ _)); exact qbw.out) hb); have n1_ := qaa.mk (qar (by repeat (first | (with_reducible first | exact HB.out | apply qaf | apply qad | apply qah | refine qag ?_ qdc.out) | exact HB.out)) hb); clear qbw; clear HB; have qbw := n0_; have HB := n1_; clear n0_ n1_; (try clear hb); (try clear hb2); (try clear hk); (try clear hi)) | ((with_reducible refine qaN (N := 5) rfl ?_); refine qa9 ?hg (N := 5) ?hd (cs := #[.int .i64 0, .int .i64 0]) (t := 25) ?hr ?_; (case hd => rfl); (case hg => rfl); (case hr => first | (go_simp; done) | (go_simp; rfl)); intro qcw hg w25 hbox hb; have n0_ := qaa.mk (qan (g := qbX) (o := .cells #[.int .i64 a1_0, .int .i64 a1_1] 23 (0, 0)) (by (with_reducible repeat (first | refine qac ?_ _ | refine qae ?_ | refine qab ?_ _)); exact qbw.out) hb); have n1_ := qaa.mk (qar (by repeat (first | (with_reducible first | exact HB.out | apply qaf | apply qad | apply qah | refine qag ?_ qdc.out) | exact HB.out)) hb); have n2_ := qaa.mk (hbox); have n3_ := qaa.mk ((by rw [hg]; exact (qam (by repeat (first | (with_reducible first | exact HB.out | apply qaf | apply qad | apply qah | refine qag ?_ qdc.out) | exact HB.out))) : w.heap.size ≤ qcw)); have n4_ := qaa.mk ((by rw [hg]; exact (qam (by repeat (first | (with_reducible first | exact HB.out | apply qaf | apply qad | apply qah | refine qag ?_ qdc.out) | exact HB.out))) : w.heap.size ≤ qcw)); have n5_ := qaa.mk ((by rw [hg]; exact Nat.ne_of_lt (qaA (g := qbX) (o := .cells #[.int .i64 a1_0, .int .i64 a1_1] 23 (0, 0)) (by (with_reducible repeat (first | refine qac ?_ _ | refine qae ?_ | refine qab ?_ _)); exact qbw.out)) : qbX ≠ qcw)); have n6_ := qaa.mk ((by rw [hg]; exact Nat.ne_of_gt (qaA (g := qbX) (o := .cells #[.int .i64 a1_0, .int .i64 a1_1] 23 (0, 0)) (by (with_reducible repeat (first | refine qac ?_ _ | refine qae ?_ | refine qab ?_ _)); exact qbw.out)) : qcw ≠ qbX)); clear qbw; clear HB; have qbw := n0_; have HB := n1_; have qb1 := n2_; have qrg := n3_; have qef := n4_; have qel := n5_; have qhN := n6_; clear n0_ n1_ n2_ n3_ n4_ n5_ n6_; clear hb hbox hg; have qub := qhN.out; have quc := qel.out; have qBP : w25.cell? ⟨qcw, 0, none⟩ = some (.int .i64 0) := (qai qb1.out 0).trans rfl; have qBQ : w25.cell? ⟨qcw, 1, none⟩ = some (.int .i64 0) := (qai qb1.out 1).trans rfl; have qBR := qaj qb1.out 0; have qBS := qaj qb1.out 1; have qhZ : w25.cell? ⟨qbX, 0, none⟩ = some (.int .i64 a1_0) := (qai qbw.out 0).trans rfl; have qh0 : w25.cell? ⟨qbX, 1, none⟩ = some (.int .i64 a1_1) := (qai qbw.out 1).trans rfl; have qh1 := qaj qbw.out 0; have qh2 := qaj qbw.out 1) | ((with_reducible refine qaK (f := 20) rfl ?_); refine qbm (some 24) rfl rfl Try.func20 (by kernel_rfl) rfl #[.slice A0 l0.length c0, .int .i64 a1_0, .int .i64 a1_1] rfl (by (try simp only [List.map_toArray, List.map_cons, List.map_nil]); first | done | rfl | (simp only [List.length_drop, List.length_take]; rfl)) ?_; (with_reducible refine (qal.calls k _ _ l0 a1_0 a1_1 t361 t362 t363 _ ?side1 ?side2 A4.out).mono ?_); (case side1 => exact Kd.C_below HR0.out (by repeat (first | (with_reducible first | exact HB.out | apply qaf | apply qad | apply qah | refine qag ?_ qdc.out | refine qag ?_ qef.out) | exact HB.out))); (case side2 => exact HC0.out); rintro e w29 ⟨rfl, hb⟩; refine ⟨_, rfl, ?_⟩; have n0_ := qaa.mk (qan (g := qbX) (o := .cells #[.int .i64 a1_0, .int .i64 a1_1] 23 (0, 0)) (by (with_reducible repeat (first | refine qac ?_ _ | refine qae ?_ | refine qab ?_ _)); refine qao ?_ qel.out _; (with_reducible repeat (first | refine qac ?_ _ | refine qae ?_ | refine qab ?_ _)); refine qao ?_ qel.out _; (with_reducible repeat (first | refine qac ?_ _ | refine qae ?_ | refine qab ?_ _)); exact qbw.out) hb); have n1_ := qaa.mk (qan (g := qcw) (o := .cells #[.int .i64 t357, .int .i64 t358] 25 (0, 0)) (by (with_reducible repeat (first | refine qac ?_ _ | refine qae ?_ | refine qab ?_ _)); refine qaw (cs := #[.int .i64 t357, .int .i64 0]) ?_ 1 _ rfl; (with_reducible repeat (first | refine qac ?_ _ | refine qae ?_ | refine qab ?_ _)); refine qaw (cs := #[.int .i64 0, .int .i64 0]) ?_ 0 _ rfl; (with_reducible repeat (first | refine qac ?_ _ | refine qae ?_ | refine qab ?_ _)); exact qb1.out) hb); have n2_ := qaa.mk (qar (by repeat (first | (with_reducible first | exact HB.out | apply qaf | apply qad | apply qah | refine qag ?_ qdc.out | refine qag ?_ qef.out) | exact HB.out)) hb); clear qbw; clear qb1; clear HB; have qbw := n0_; have qb1 := n1_; have HB := n2_; clear n0_ n1_ n2_; (try clear hb); (try clear hb2); (try clear hk); (try clear hi)) | ((with_reducible refine qaN (N := 7) rfl ?_); refine qa9 ?hg (N := 7) ?hd (cs := #[.int .i64 0, .int .i64 0]) (t := 25) ?hr ?_; (case hd => rfl); (case hg => rfl); (case hr => first | (go_simp; done) | (go_simp; rfl)); intro qdC hg w30 hbox hb; have n0_ := qaa.mk (qan (g := qbX) (o := .cells #[.int .i64 a1_0, .int .i64 a1_1] 23 (0, 0)) (by (with_reducible repeat (first | refine qac ?_ _ | refine qae ?_ | refine qab ?_ _)); exact qbw.out) hb); have n1_ := qaa.mk (qan (g := qcw) (o := .cells #[.int .i64 t357, .int .i64 t358] 25 (0, 0)) (by (with_reducible repeat (first | refine qac ?_ _ | refine qae ?_ | refine qab ?_ _)); exact qb1.out) hb); have n2_ := qaa.mk (qar (by repeat (first | (with_reducible first | exact HB.out | apply qaf | apply qad | apply qah | refine qag ?_ qdc.out | refine qag ?_ qef.out) | exact HB.out)) hb); have n3_ := qaa.mk (hbox); have n4_ := qaa.mk ((by rw [hg]; exact (qam (by repeat (first | (with_reducible first | exact HB.out | apply qaf | apply qad | apply qah | refine qag ?_ qdc.out | refine qag ?_ qef.out) | exact HB.out))) : w.heap.size ≤ qdC)); have n5_ := qaa.mk ((by rw [hg]; exact (qam (by repeat (first | (with_reducible first | exact HB.out | apply qaf | apply qad | apply qah | refine qag ?_ qdc.out | refine qag ?_ qef.out) | exact HB.out))) : w.heap.size ≤ qdC)); have n6_ := qaa.mk ((by rw [hg]; exact Nat.ne_of_lt (qaA (g := qbX) (o := .cells #[.int .i64 a1_0, .int .i64 a1_1] 23 (0, 0)) (by (with_reducible repeat (first | refine qac ?_ _ | refine qae ?_ | refine qab ?_ _)); exact qbw.out)) : qbX ≠ qdC)); have n7_ := qaa.mk ((by rw [hg]; exact Nat.ne_of_gt (qaA (g := qbX) (o := .cells #[.int .i64 a1_0, .int .i64 a1_1] 23 (0, 0)) (by (with_reducible repeat (first | refine qac ?_ _ | refine qae ?_ | refine qab ?_ _)); exact qbw.out)) : qdC ≠ qbX)); have n8_ := qaa.mk ((by rw [hg]; exact Nat.ne_of_lt (qaA (g := qcw) (o := .cells #[.int .i64 t357, .int .i64 t358] 25 (0, 0)) (by (with_reducible repeat (first | refine qac ?_ _ | refine qae ?_ | refine qab ?_ _)); exact qb1.out)) : qcw ≠ qdC)); have n9_ := qaa.mk ((by rw [hg]; exact Nat.ne_of_gt (qaA (g := qcw) (o := .cells #[.int .i64 t357, .int .i64 t358] 25 (0, 0)) (by (with_reducible repeat (first | refine qac ?_ _ | refine qae ?_ | refine qab ?_ _)); exact qb1.out)) : qdC ≠ qcw)); clear qbw; clear qb1; clear HB; have qbw := n0_; have qb1 := n1_; have HB := n2_; have qfg := n3_; have qrh := n4_; have qkH := n5_; have qf2 := n6_; have qhO := n7_; have qf3 := n8_; have qhP := n9_; clear n0_ n1_ n2_ n3_ n4_ n5_ n6_ n7_ n8_ n9_; clear hb hbox hg; have qqz := qhO.out; have qqA := qf2.out; have qEE := qhP.out; have qEF := qf3.out; have qBT : w30.cell? ⟨qdC, 0, none⟩ = some (.int .i64 0) := (qai qfg.out 0).trans rfl; have qBU : w30.cell? ⟨qdC, 1, none⟩ = some (.int .i64 0) := (qai qfg.out 1).trans rfl; have qBV := qaj qfg.out 0; have qBW := qaj qfg.out 1; have qBX : w30.cell? ⟨qcw, 0, none⟩ = some (.int .i64 t357) := (qai qb1.out 0).trans rfl; have qBY : w30.cell? ⟨qcw, 1, none⟩ = some (.int .i64 t358) := (qai qb1.out 1).trans rfl; have qBZ := qaj qb1.out 0; have qB0 := qaj qb1.out 1))
  go_ret
  exact ⟨by first | rfl | (simp [qaG, qaH] <;> rfl) | (simp [*, qaG, qaH] <;> rfl), by repeat (first | (with_reducible first | exact HB.out | apply qaf | apply qad | apply qah | refine qag ?_ qdc.out | refine qag ?_ qef.out | refine qag ?_ qkH.out) | exact HB.out)⟩
 rw [if_neg c5] at H
 have c5b0 : (t357 == t361 && (t358 == t362)) = false := by simpa using c5
 (try (have c5b1 : decide (t357 = t361 && (t358 == t362)) = false := by simpa using c5))
 (try (have c5b2 : (t357 == t361 && (t358 == t362)) = false := by simpa using c5))
 (try (have c5b3 : ¬ (t357 = t361 && (t358 == t362)) := by simpa using c5))
 clear c5
 obtain rfl := Option.some.inj H
 go_enter Try.func3, Try.ntmps3
 go_wp2_with (first | ((with_reducible refine qaN (N := 3) rfl ?_); refine qa9 ?hg (N := 3) ?hd (cs := #[.int .i64 a1_0, .int .i64 a1_1]) (t := 23) ?hr ?_; (case hd => rfl); (case hg => rfl); (case hr => first | (go_simp; done) | (go_simp; rfl)); intro qbX hg w35 hbox hb; have n0_ := qaa.mk (qar (by repeat (first | (with_reducible first | exact HB.out | apply qaf | apply qad | apply qah) | exact HB.out)) hb); have n1_ := qaa.mk (hbox); have n2_ := qaa.mk ((by rw [hg]; exact (qam (by repeat (first | (with_reducible first | exact HB.out | apply qaf | apply qad | apply qah) | exact HB.out))) : w.heap.size ≤ qbX)); have n3_ := qaa.mk ((by rw [hg]; exact (qam (by repeat (first | (with_reducible first | exact HB.out | apply qaf | apply qad | apply qah) | exact HB.out))) : w.heap.size ≤ qbX)); clear HB; have HB := n0_; have qbw := n1_; have qrf := n2_; have qdc := n3_; clear n0_ n1_ n2_ n3_; clear hb hbox hg; have qsR : w35.cell? ⟨qbX, 0, none⟩ = some (.int .i64 a1_0) := (qai qbw.out 0).trans rfl; have qsS : w35.cell? ⟨qbX, 1, none⟩ = some (.int .i64 a1_1) := (qai qbw.out 1).trans rfl; have qsT := qaj qbw.out 0; have qsU := qaj qbw.out 1) | ((with_reducible refine qaK (f := 19) rfl ?_); refine qbm (some 15) rfl rfl Try.func19 (by kernel_rfl) rfl #[.slice A0 l0.length c0, .int .i64 a1_0, .int .i64 a1_1] rfl (by (try simp only [List.map_toArray, List.map_cons, List.map_nil]); first | done | rfl | (simp only [List.length_drop, List.length_take]; rfl)) ?_; (with_reducible refine (qaD.calls k _ _ l0 a1_0 a1_1 t357 t358 t359 _ ?side1 ?side2 A3.out).mono ?_); (case side1 => repeat (first | exact (Kd.C_below HR0.out HB.out) | (with_reducible refine Kd.C_alloc ?_ _) | (with_reducible refine Kd.C_drewN ?_ _) | (with_reducible refine Kd.C_drew ?_))); (case side2 => exact HC0.out); rintro e w37 ⟨rfl, hb⟩; refine ⟨_, rfl, ?_⟩; have n0_ := qaa.mk (qan (g := qbX) (o := .cells #[.int .i64 a1_0, .int .i64 a1_1] 23 (0, 0)) (by (with_reducible repeat (first | refine qac ?_ _ | refine qae ?_ | refine qab ?_ _)); exact qbw.out) hb); have n1_ := qaa.mk (qar (by repeat (first | (with_reducible first | exact HB.out | apply qaf | apply qad | apply qah | refine qag ?_ qdc.out) | exact HB.out)) hb); clear qbw; clear HB; have qbw := n0_; have HB := n1_; clear n0_ n1_; (try clear hb); (try clear hb2); (try clear hk); (try clear hi)) | ((with_reducible refine qaN (N := 5) rfl ?_); refine qa9 ?hg (N := 5) ?hd (cs := #[.int .i64 0, .int .i64 0]) (t := 25) ?hr ?_; (case hd => rfl); (case hg => rfl); (case hr => first | (go_simp; done) | (go_simp; rfl)); intro qcw hg w38 hbox hb; have n0_ := qaa.mk (qan (g := qbX) (o := .cells #[.int .i64 a1_0, .int .i64 a1_1] 23 (0, 0)) (by (with_reducible repeat (first | refine qac ?_ _ | refine qae ?_ | refine qab ?_ _)); exact qbw.out) hb); have n1_ := qaa.mk (qar (by repeat (first | (with_reducible first | exact HB.out | apply qaf | apply qad | apply qah | refine qag ?_ qdc.out) | exact HB.out)) hb); have n2_ := qaa.mk (hbox); have n3_ := qaa.mk ((by rw [hg]; exact (qam (by repeat (first | (with_reducible first | exact HB.out | apply qaf | apply qad | apply qah | refine qag ?_ qdc.out) | exact HB.out))) : w.heap.size ≤ qcw)); have n4_ := qaa.mk ((by rw [hg]; exact (qam (by repeat (first | (with_reducible first | exact HB.out | apply qaf | apply qad | apply qah | refine qag ?_ qdc.out) | exact HB.out))) : w.heap.size ≤ qcw)); have n5_ := qaa.mk ((by rw [hg]; exact Nat.ne_of_lt (qaA (g := qbX) (o := .cells #[.int .i64 a1_0, .int .i64 a1_1] 23 (0, 0)) (by (with_reducible repeat (first | refine qac ?_ _ | refine qae ?_ | refine qab ?_ _)); exact qbw.out)) : qbX ≠ qcw)); have n6_ := qaa.mk ((by rw [hg]; exact Nat.ne_of_gt (qaA (g := qbX) (o := .cells #[.int .i64 a1_0, .int .i64 a1_1] 23 (0, 0)) (by (with_reducible repeat (first | refine qac ?_ _ | refine qae ?_ | refine qab ?_ _)); exact qbw.out)) : qcw ≠ qbX)); clear qbw; clear HB; have qbw := n0_; have HB := n1_; have qb1 := n2_; have qrg := n3_; have qef := n4_; have qel := n5_; have qhN := n6_; clear n0_ n1_ n2_ n3_ n4_ n5_ n6_; clear hb hbox hg; have qpb := qhN.out; have qpc := qel.out; have qi7 : w38.cell? ⟨qcw, 0, none⟩ = some (.int .i64 0) := (qai qb1.out 0).trans rfl; have qi8 : w38.cell? ⟨qcw, 1, none⟩ = some (.int .i64 0) := (qai qb1.out 1).trans rfl; have qi9 := qaj qb1.out 0; have qja := qaj qb1.out 1; have ql8 : w38.cell? ⟨qbX, 0, none⟩ = some (.int .i64 a1_0) := (qai qbw.out 0).trans rfl; have ql9 : w38.cell? ⟨qbX, 1, none⟩ = some (.int .i64 a1_1) := (qai qbw.out 1).trans rfl; have qma := qaj qbw.out 0; have qmb := qaj qbw.out 1) | ((with_reducible refine qaK (f := 20) rfl ?_); refine qbm (some 24) rfl rfl Try.func20 (by kernel_rfl) rfl #[.slice A0 l0.length c0, .int .i64 a1_0, .int .i64 a1_1] rfl (by (try simp only [List.map_toArray, List.map_cons, List.map_nil]); first | done | rfl | (simp only [List.length_drop, List.length_take]; rfl)) ?_; (with_reducible refine (qal.calls k _ _ l0 a1_0 a1_1 t361 t362 t363 _ ?side1 ?side2 A4.out).mono ?_); (case side1 => exact Kd.C_below HR0.out (by repeat (first | (with_reducible first | exact HB.out | apply qaf | apply qad | apply qah | refine qag ?_ qdc.out | refine qag ?_ qef.out) | exact HB.out))); (case side2 => exact HC0.out); rintro e w42 ⟨rfl, hb⟩; refine ⟨_, rfl, ?_⟩; have n0_ := qaa.mk (qan (g := qbX) (o := .cells #[.int .i64 a1_0, .int .i64 a1_1] 23 (0, 0)) (by (with_reducible repeat (first | refine qac ?_ _ | refine qae ?_ | refine qab ?_ _)); refine qao ?_ qel.out _; (with_reducible repeat (first | refine qac ?_ _ | refine qae ?_ | refine qab ?_ _)); refine qao ?_ qel.out _; (with_reducible repeat (first | refine qac ?_ _ | refine qae ?_ | refine qab ?_ _)); exact qbw.out) hb); have n1_ := qaa.mk (qan (g := qcw) (o := .cells #[.int .i64 t357, .int .i64 t358] 25 (0, 0)) (by (with_reducible repeat (first | refine qac ?_ _ | refine qae ?_ | refine qab ?_ _)); refine qaw (cs := #[.int .i64 t357, .int .i64 0]) ?_ 1 _ rfl; (with_reducible repeat (first | refine qac ?_ _ | refine qae ?_ | refine qab ?_ _)); refine qaw (cs := #[.int .i64 0, .int .i64 0]) ?_ 0 _ rfl; (with_reducible repeat (first | refine qac ?_ _ | refine qae ?_ | refine qab ?_ _)); exact qb1.out) hb); have n2_ := qaa.mk (qar (by repeat (first | (with_reducible first | exact HB.out | apply qaf | apply qad | apply qah | refine qag ?_ qdc.out | refine qag ?_ qef.out) | exact HB.out)) hb); clear qbw; clear qb1; clear HB; have qbw := n0_; have qb1 := n1_; have HB := n2_; clear n0_ n1_ n2_; (try clear hb); (try clear hb2); (try clear hk); (try clear hi)) | ((with_reducible refine qaN (N := 7) rfl ?_); refine qa9 ?hg (N := 7) ?hd (cs := #[.int .i64 0, .int .i64 0]) (t := 25) ?hr ?_; (case hd => rfl); (case hg => rfl); (case hr => first | (go_simp; done) | (go_simp; rfl)); intro qdC hg w43 hbox hb; have n0_ := qaa.mk (qan (g := qbX) (o := .cells #[.int .i64 a1_0, .int .i64 a1_1] 23 (0, 0)) (by (with_reducible repeat (first | refine qac ?_ _ | refine qae ?_ | refine qab ?_ _)); exact qbw.out) hb); have n1_ := qaa.mk (qan (g := qcw) (o := .cells #[.int .i64 t357, .int .i64 t358] 25 (0, 0)) (by (with_reducible repeat (first | refine qac ?_ _ | refine qae ?_ | refine qab ?_ _)); exact qb1.out) hb); have n2_ := qaa.mk (qar (by repeat (first | (with_reducible first | exact HB.out | apply qaf | apply qad | apply qah | refine qag ?_ qdc.out | refine qag ?_ qef.out) | exact HB.out)) hb); have n3_ := qaa.mk (hbox); have n4_ := qaa.mk ((by rw [hg]; exact (qam (by repeat (first | (with_reducible first | exact HB.out | apply qaf | apply qad | apply qah | refine qag ?_ qdc.out | refine qag ?_ qef.out) | exact HB.out))) : w.heap.size ≤ qdC)); have n5_ := qaa.mk ((by rw [hg]; exact (qam (by repeat (first | (with_reducible first | exact HB.out | apply qaf | apply qad | apply qah | refine qag ?_ qdc.out | refine qag ?_ qef.out) | exact HB.out))) : w.heap.size ≤ qdC)); have n6_ := qaa.mk ((by rw [hg]; exact Nat.ne_of_lt (qaA (g := qbX) (o := .cells #[.int .i64 a1_0, .int .i64 a1_1] 23 (0, 0)) (by (with_reducible repeat (first | refine qac ?_ _ | refine qae ?_ | refine qab ?_ _)); exact qbw.out)) : qbX ≠ qdC)); have n7_ := qaa.mk ((by rw [hg]; exact Nat.ne_of_gt (qaA (g := qbX) (o := .cells #[.int .i64 a1_0, .int .i64 a1_1] 23 (0, 0)) (by (with_reducible repeat (first | refine qac ?_ _ | refine qae ?_ | refine qab ?_ _)); exact qbw.out)) : qdC ≠ qbX)); have n8_ := qaa.mk ((by rw [hg]; exact Nat.ne_of_lt (qaA (g := qcw) (o := .cells #[.int .i64 t357, .int .i64 t358] 25 (0, 0)) (by (with_reducible repeat (first | refine qac ?_ _ | refine qae ?_ | refine qab ?_ _)); exact qb1.out)) : qcw ≠ qdC)); have n9_ := qaa.mk ((by rw [hg]; exact Nat.ne_of_gt (qaA (g := qcw) (o := .cells #[.int .i64 t357, .int .i64 t358] 25 (0, 0)) (by (with_reducible repeat (first | refine qac ?_ _ | refine qae ?_ | refine qab ?_ _)); exact qb1.out)) : qdC ≠ qcw)); clear qbw; clear qb1; clear HB; have qbw := n0_; have qb1 := n1_; have HB := n2_; have qfg := n3_; have qrh := n4_; have qkH := n5_; have qf2 := n6_; have qhO := n7_; have qf3 := n8_; have qhP := n9_; clear n0_ n1_ n2_ n3_ n4_ n5_ n6_ n7_ n8_ n9_; clear hb hbox hg; have quf := qhO.out; have qug := qf2.out; have qEG := qhP.out; have qEH := qf3.out; have qB1 : w43.cell? ⟨qdC, 0, none⟩ = some (.int .i64 0) := (qai qfg.out 0).trans rfl; have qB2 : w43.cell? ⟨qdC, 1, none⟩ = some (.int .i64 0) := (qai qfg.out 1).trans rfl; have qB3 := qaj qfg.out 0; have qB4 := qaj qfg.out 1; have qB5 : w43.cell? ⟨qcw, 0, none⟩ = some (.int .i64 t357) := (qai qb1.out 0).trans rfl; have qB6 : w43.cell? ⟨qcw, 1, none⟩ = some (.int .i64 t358) := (qai qb1.out 1).trans rfl; have qB7 := qaj qb1.out 0; have qB8 := qaj qb1.out 1))
 go_ret
 exact ⟨by first | rfl | (simp [qaG, qaH] <;> rfl) | (simp [*, qaG, qaH] <;> rfl), by repeat (first | (with_reducible first | exact HB.out | apply qaf | apply qad | apply qah | refine qag ?_ qdc.out | refine qag ?_ qef.out | refine qag ?_ qkH.out) | exact HB.out)⟩
end Go.Proofs.Ytmhomdohhihlcaa.P
namespace Go.Proofs.Ytmhomdohhihlcaa.P
open Go.RowKit Go.ChangeShapes Go.WideShapes Go.Proofs.YtmhomdohhihlcaaW.PrintWords Go.Proofs.YtmhomdohhihlcaaW.PrintLast Go.Proofs.YtmhomdohhihlcaaW.PrintMore
def qiN {α : Type} (d : Kd α) (t : TypeId) (p : α → Prop) : Prop := ∀ (H : Type) (enc : TypeId × Value → H) (w : World) (fuel : Nat) (cs : List Value) (x : DataW H × List MemPlace),
 DataW.trod enc Try.prog w 0 (fun _ => true) true fuel t cs = some x → ∃ a, d.K w a cs ∧ p a
def Wf (n : Int) : Prop := (Lit.int .i64 n).wf = true
theorem qnS {α : Type} {d : Kd α} {e e' t : TypeId} {p : α → Prop} (h : qiN d e p) (ht : Try.prog.underlying t = some (.slice e)) (hc : Try.prog.cellsOf e = d.sz) : qiN (Kd.slice e' d) t (fun xs => ∀ x ∈ xs, p x) := fun H enc w fuel cs x hf => by
 rcases Deep.open_slice ht hf with ⟨rfl, _⟩ | ⟨a, len, cap, m, n, D, Pl, rfl, _, hl, hm, hmm, _, hx⟩
 ·
  exact ⟨[], ⟨none, 0, rfl, Nat.le_refl _, Kd.C_nil d w⟩, fun x hx => by simp at hx⟩
 ·
  have each : ∀ i, i < len → ∃ z : α, (∃ c, c.length = d.sz ∧ d.K w z c ∧ ∀ j u, c[j]? = some u → w.cell? (a.add (i * d.sz + j)) = some u) ∧ p z := fun i hi => by
   obtain ⟨cs', h1, h2⟩ := hx i (by simp only [if_true] at hmm; omega)
   obtain ⟨z, hz, hp⟩ := h H enc w n cs' _ h2
   obtain ⟨_, hcl, hat⟩ := World.cells?_some h1
   refine ⟨z, ⟨cs', d.K_len hz, hz, fun j u hu => ?_⟩, hp⟩
   have hj : j < cs'.length := (List.getElem?_eq_some_iff.1 hu).1
   rw [d.K_len hz] at hj
   have hj' : j < Try.prog.cellsOf e := by rw [hc]; exact hj
   have h3 := hat j hj'
   rw [Deep.add_add, hc] at h3
   rw [h3]
   exact hu
  by_cases h0 : len = 0
  ·
   subst h0
   exact ⟨[], ⟨some a, cap, rfl, by simp, ⟨rfl, by simp, fun hh => by simp at hh⟩⟩, fun x hx => by simp at hx⟩
  ·
   obtain ⟨z0, _⟩ := each 0 (by omega)
   have inst : Inhabited α := ⟨z0⟩
   obtain ⟨f, hfz⟩ := Deep.choose_lt each
   have hmx : cap ≤ 9223372036854775807 := by unfold maxLen at hm; omega
   refine ⟨(List.range len).map f, ⟨some a, cap, by simp, by simpa using hl, ⟨rfl, by simp; omega, fun _ => ⟨a, rfl, fun j q hj => ?_⟩⟩⟩, fun x hx => ?_⟩
   ·
    have hj2 : j < len := by have := (List.getElem?_eq_some_iff.1 hj).1; simpa using this
    rw [List.getElem?_map, List.getElem?_range hj2] at hj
    injection hj with hj
    subst hj; obtain ⟨c, c1, c2, c3⟩ := (hfz j hj2).1
    exact ⟨c, c1, c2, c3⟩
   ·
    obtain ⟨i, hi, rfl⟩ := List.mem_map.1 hx
    exact (hfz i (List.mem_range.1 hi)).2
theorem c3 : Try.prog.cellsOf 3 = 1 := by kernel_rfl
theorem c25 : Try.prog.cellsOf 25 = 2 := by kernel_rfl
theorem c68 : Try.prog.cellsOf 68 = 3 := by kernel_rfl
theorem c37 : Try.prog.cellsOf 37 = 1 := by kernel_rfl
theorem c32 : Try.prog.cellsOf 32 = 1 := by kernel_rfl
theorem c63 : Try.prog.cellsOf 63 = 1 := by kernel_rfl
theorem c44 : Try.prog.cellsOf 44 = 1 := by kernel_rfl
theorem c45 : Try.prog.cellsOf 45 = 1 := by kernel_rfl
theorem c39 : Try.prog.cellsOf 39 = 5 := by kernel_rfl
theorem c47 : Try.prog.cellsOf 47 = 3 := by kernel_rfl
theorem c23 : Try.prog.cellsOf 23 = 2 := by kernel_rfl
theorem len2 {α : Type} {l : List α} (h : l.length = 2) : ∃ a b, l = [a, b] := by
 match l, h with
 | [a, b], _ => exact ⟨a, b, rfl⟩
theorem len3 {α : Type} {l : List α} (h : l.length = 3) : ∃ a b c, l = [a, b, c] := by
 match l, h with
 | [a, b, c], _ => exact ⟨a, b, c, rfl⟩
theorem qiI {α : Type} {l : List α} {i : Nat} {o : Option α} (hi : i < l.length) (h : o = l[i]?) : ∃ y, o = some y := ⟨l[i], by rw [h, List.getElem?_eq_getElem hi]⟩
def W25 (s : S25) : Prop := Wf s.f0 ∧ Wf s.f1
def W68 (s : S68) : Prop := Wf s.f0 ∧ W25 s.f1
theorem qp5 : qiN k25 25 W25 := fun H enc w fuel cs x h => by
 obtain ⟨xs, n, _, _, hl, hxl, hf⟩ := DataW.trod_struct Try.underlying25 h
 rw [c25] at hl
 obtain ⟨a, b, rfl⟩ := len2 hl
 have h0 : DataW.trod enc Try.prog w 0 (fun _ => true) true n 3 (([a, b].drop 0).take (Try.prog.cellsOf 3)) = xs[0]? := hf 0 _ rfl
 have h1 : DataW.trod enc Try.prog w 0 (fun _ => true) true n 3 (([a, b].drop 1).take (Try.prog.cellsOf 3)) = xs[1]? := hf 1 _ rfl
 rw [c3] at h0 h1
 have hx2 : xs.length = 2 := hxl
 obtain ⟨y0, e0⟩ := qiI (by omega) h0
 obtain ⟨y1, e1⟩ := qiI (by omega) h1
 obtain ⟨n0, q0, _, g0⟩ := DataW.trod_int Try.underlying3 e0
 obtain ⟨n1, q1, _, g1⟩ := DataW.trod_int Try.underlying3 e1
 replace q0 : [a] = [Value.int .i64 n0] := q0
 replace q1 : [b] = [Value.int .i64 n1] := q1
 injection q0 with q0
 injection q1 with q1
 subst q0 q1
 exact ⟨⟨n0, n1⟩, qnz w ⟨n0, n1⟩, g0, g1⟩
theorem qp8 : qiN k68 68 W68 := fun H enc w fuel cs x h => by
 obtain ⟨xs, n, _, _, hl, hxl, hf⟩ := DataW.trod_struct Try.underlying68 h
 rw [c68] at hl
 obtain ⟨a, b, c, rfl⟩ := len3 hl
 have h0 : DataW.trod enc Try.prog w 0 (fun _ => true) true n 3 (([a, b, c].drop 0).take (Try.prog.cellsOf 3)) = xs[0]? := hf 0 _ rfl
 have h1 : DataW.trod enc Try.prog w 0 (fun _ => true) true n 25 (([a, b, c].drop 1).take (Try.prog.cellsOf 25)) = xs[1]? := hf 1 _ rfl
 rw [c3] at h0
 rw [c25] at h1
 have hx2 : xs.length = 2 := hxl
 obtain ⟨y0, e0⟩ := qiI (by omega) h0
 obtain ⟨y1, e1⟩ := qiI (by omega) h1
 obtain ⟨n0, q0, _, g0⟩ := DataW.trod_int Try.underlying3 e0
 obtain ⟨s1, q1, g1⟩ := qp5 H enc w n _ _ e1
 replace q0 : [a] = [Value.int .i64 n0] := q0
 injection q0 with q0
 subst q0
 have q2 : [b, c] = [Value.int .i64 s1.f0, .int .i64 s1.f1] := qkQ q1
 injection q2 with q3 q4
 injection q4 with q4
 subst q3 q4
 exact ⟨⟨n0, s1⟩, qtf w ⟨n0, s1⟩, g0, g1⟩
theorem qnt : qiN (Kd.slice 68 k68) 22 (fun l => ∀ x ∈ l, W68 x) := qnS qp8 Try.underlying22 c68
section
variable {H : Type} {enc : TypeId × Value → H} {W : World} {d : DataW H} {ps : List MemPlace}
theorem qpv {α : Type} {k : Kd α} {t e' : TypeId} {p : List α → Prop} (hr : qiN (Kd.slice e' k) t p) {a : Option Addr} {len cap : Nat} (h : DataW.Trod enc Try.prog W 0 (fun _ => true) true t (.slice a len cap) d ps) :
  ∃ l : List α, len = l.length ∧ Kd.C k W a l.length l ∧ l.length ≤ cap ∧ p l := by
 obtain ⟨fuel, hf⟩ := h
 obtain ⟨l, ⟨A, c, e1, hc, hC⟩, hp⟩ := hr H enc W fuel _ _ hf
 replace e1 : [Value.slice a len cap] = [Value.slice A l.length c] := e1
 injection e1 with e1
 injection e1 with e1 e2 e3
 subst e1 e2 e3
 exact ⟨l, rfl, hC, hc, hp⟩
theorem qqj {t e : TypeId} {a : Option Addr} {len cap : Nat} {ts : List TypeId} {ds : List (DataW H)} {j : Nat} {B : Nat}
  (hsz : (DataW.weightsEach Try.prog ts ds).all (· ≤ reachBytes) = true) (ht : ts[j]? = some t) (hd : ds[j]? = some d) (hu : Try.prog.underlying t = some (.slice e)) (hB : Try.prog.bytesOf e = B)
  (h : DataW.Trod enc Try.prog W 0 (fun _ => true) true t (.slice a len cap) d ps) : len * B ≤ 140737488351232 := by
 obtain ⟨fuel, hf⟩ := h
 rcases Deep.open_slice hu hf with ⟨hcs, _⟩ | ⟨a', len', cap', m, n, D, Pl, hcs, _, hl, _, hmm, hx, _⟩
 ·
  replace hcs : [Value.slice a len cap] = [Value.slice none 0 0] := hcs
  injection hcs with hcs
  injection hcs with _ h2 _
  subst h2
  simp
 ·
  replace hcs : [Value.slice a len cap] = [Value.slice (some a') len' cap'] := hcs
  injection hcs with hcs
  injection hcs with _ h2 _
  subst h2
  injection hx with hx _
  rw [hx] at hd
  have z := sized_slice hsz ht hd hu
  rw [hB] at z
  have hrb : reachBytes = 140737488351232 := by decide
  rw [hrb] at z
  simp only [List.length_map, List.length_range] at z
  exact Nat.le_trans (Nat.mul_le_mul_right _ (by omega)) z
theorem qnp {r : Reach} {base : Nat} {t e : TypeId} {n : Nat} {v : Value} (ht : Try.prog.underlying t = some (.array n e)) (h : Value.okWide Try.prog W r base t v) : ∃ cs, v = .agg cs := by
 simp only [Value.okWide, ht] at h
 obtain ⟨cs, h1, _⟩ := h
 exact ⟨cs, h1⟩
theorem qtj {n : Nat} {t : TypeId} (ht : Try.prog.underlying t = some (.array n 3)) {fuel : Nat} {l : List Value} {x : DataW H × List MemPlace} (h : DataW.trod enc Try.prog W 0 (fun _ => true) true fuel t l = some x) :
  l.length = Try.prog.cellsOf t ∧ ∀ i v, i < n → l[i]? = some v → ∃ m, v = .int .i64 m ∧ Wf m := by
 obtain ⟨xs, m, _, _, hl, hxl, hf⟩ := DataW.trod_array ht h
 refine ⟨hl, fun i v hi hv => ?_⟩
 have h1 := hf i hi
 rw [c3, Nat.mul_one] at h1
 obtain ⟨y, e⟩ := qiI (by omega) h1
 obtain ⟨n', q, _, g⟩ := DataW.trod_int Try.underlying3 e
 obtain ⟨hil, hv'⟩ := List.getElem?_eq_some_iff.1 hv
 rw [List.drop_eq_getElem_cons hil, hv'] at q
 injection q with q
 exact ⟨n', q, g⟩
theorem qtc {cs : Array Value} (h : DataW.Trod enc Try.prog W 0 (fun _ => true) true 23 (.agg cs) d ps) : ∃ a b : Int, cs = #[.int .i64 a, .int .i64 b] ∧ Wf a ∧ Wf b := by
 obtain ⟨fuel, hf⟩ := h
 obtain ⟨hl, hat⟩ := qtj Try.underlying23 (show DataW.trod enc Try.prog W 0 (fun _ => true) true fuel 23 cs.toList = some (d, ps) from hf)
 rw [c23] at hl
 obtain ⟨a, b, e⟩ := len2 hl
 rw [e] at hat
 obtain ⟨m0, rfl, g0⟩ := hat 0 _ (by omega) rfl
 obtain ⟨m1, rfl, g1⟩ := hat 1 _ (by omega) rfl
 exact ⟨m0, m1, Array.toList_inj.1 e, g0, g1⟩
end
end Go.Proofs.Ytmhomdohhihlcaa.P
namespace Go.Proofs.Ytmhomdohhihlcaa.P
open Go.RowKit Go.Proofs.YtmhomdohhihlcaaW.PrintWords Go.Proofs.YtmhomdohhihlcaaW.PrintLast Go.Proofs.YtmhomdohhihlcaaW.PrintMore
theorem qkN (a b c : Int) : qas.f a b c = some (wi a b c) := by
 unfold qas.f wi
 by_cases h : b ≤ a
 ·
  rw [if_pos h]; simp [h]
 ·
  rw [if_neg h]; simp [h]
theorem qj1 (a b c : Int) : qbh.f a b c = some (wi a b c) := by
 unfold qbh.f wi
 by_cases h : b ≤ a
 ·
  rw [if_pos h]; simp [h]
 ·
  rw [if_neg h]; simp [h]
def sp (a b h : Int) : Bool := decide (0 ≤ a ∧ a ≤ b ∧ b ≤ h)
theorem qnu (a b h : Int) : qdd.f a b h = some (sp a b h) := by
 unfold qdd.f sp
 by_cases h1 : 0 ≤ a
 ·
  rw [if_pos h1]
  by_cases h2 : a ≤ b
  ·
   rw [if_pos h2]; simp [h1, h2]
  ·
   rw [if_neg h2]; simp [h2]
 ·
  rw [if_neg h1]; simp [h1]
theorem qnn (a b h : Int) : qcI.f a b 0 h = some (sp a b h) := by
 unfold qcI.f
 rw [qj1, qj1]
 simp only [Option.bind_some]
 by_cases h1 : wi a 0 h = true
 ·
  rw [if_pos h1]
  obtain ⟨h2, h3⟩ := qna.1 h1
  unfold wi sp
  congr 1
  rw [decide_eq_decide]
  omega
 ·
  rw [if_neg h1]
  unfold wi at h1
  unfold sp
  congr 1
  symm
  simp at h1 ⊢
  omega
theorem rd68 (l : List S68) (i : Nat) (h : i < l.length) : qau l (i : Int) = l[i] := by simp [qau, List.getD_eq_getElem?_getD, List.getElem?_eq_getElem h]
theorem wr1 (i n : Nat) (h : i < n) (hn : (n : Int) ≤ 9223372036854775807) : wrap64 ((i : Int) + 1) = ((i + 1 : Nat) : Int) := by unfold wrap64; omega
def vS (x : S68) : Bool := wi x.f0 0 10000 && sp x.f1.f0 x.f1.f1 20
def agL (a1 a2 : Int) : List S68 → Int → Int → Int × Int
 | [], s, t => (s, t)
 | x :: xs, s, t => agL a1 a2 xs (if a1 ≤ x.f1.f0 ∧ x.f1.f1 ≤ a2 then wrap64 (s + x.f0) else s) (if a1 ≤ x.f1.f1 ∧ x.f1.f0 ≤ a2 then wrap64 (t + x.f0) else t)
def qjZ (a1 a2 : Int) (l : List S68) (b : Bool) : Int × Int × Int :=
 if b = true then (if (wi a1 0 20 && wi a2 a1 20) = true then ((agL a1 a2 l 0 0).1, (agL a1 a2 l 0 0).2, 0) else (0, 0, 7)) else (0, 0, 90)
section
variable (l : List S68) (a1 a2 : Int) (hn : l.length ≤ 9223372036854775807)
include hn
theorem qoZ : ∀ (d i : Nat) (s t : Int), i + d = l.length → Ev (fun k => qaD.l1 k a1 a2 l (l.length : Int) (i : Int) s t) ((agL a1 a2 (l.drop i) s t).1, (agL a1 a2 (l.drop i) s t).2, 0) := by
 intro d
 induction d with
 | zero =>
  intro i s t hi
  refine Ev.step (f := fun _ => some (s, t, 0)) (fun k => ?_) ?_
  ·
   simp only [qaD.l1]
   rw [if_neg (by omega)]
  ·
   rw [List.drop_eq_nil_of_le (by omega)]
   exact Ev.now _
 | succ d ih =>
  intro i s t hi
  have hlt : i < l.length := by omega
  rw [List.drop_eq_getElem_cons hlt]
  have hw := wr1 i l.length hlt (by omega)
  refine Ev.step (f := fun k => qaD.j3 k a1 a2 l (l.length : Int) (i : Int) (decide (a1 ≤ l[i].f1.f0 ∧ l[i].f1.f1 ≤ a2)) s t l[i].f0 l[i].f1.f0 l[i].f1.f1) (fun k => ?_) ?_
  ·
   simp only [qaD.l1, rd68 l i hlt]
   rw [if_pos (by omega), if_pos (by omega), if_pos (by omega)]
   by_cases h1 : a1 ≤ l[i].f1.f0
   ·
    rw [if_pos h1]
    simp [h1]
   ·
    rw [if_neg h1]
    simp [h1]
  ·
   refine Ev.step (f := fun k => qaD.l1 k a1 a2 l (l.length : Int) ((i + 1 : Nat) : Int) (if a1 ≤ l[i].f1.f0 ∧ l[i].f1.f1 ≤ a2 then wrap64 (s + l[i].f0) else s) (if a1 ≤ l[i].f1.f1 ∧ l[i].f1.f0 ≤ a2 then wrap64 (t + l[i].f0) else t)) (fun k => ?_) (ih (i + 1) _ _ (by omega))
   simp only [qaD.j3, hw]
   by_cases h1 : a1 ≤ l[i].f1.f0 ∧ l[i].f1.f1 ≤ a2 <;> by_cases h2 : a1 ≤ l[i].f1.f1 <;> by_cases h3 : l[i].f1.f0 ≤ a2 <;> simp [h1, h2, h3]
theorem qqa : ∀ (d i : Nat) (b : Bool), i + d = l.length → Ev (fun k => qaD.l0 k l a1 a2 b l (l.length : Int) (i : Int)) (qjZ a1 a2 l (b && (l.drop i).all vS)) := by
 intro d
 induction d with
 | zero =>
  intro i b hi
  rw [List.drop_eq_nil_of_le (by omega), List.all_nil, Bool.and_true]
  cases b with
  | false =>
   refine Ev.step (f := fun _ => some (0, 0, 90)) (fun k => ?_) (Ev.now _)
   simp only [qaD.l0]
   rw [if_neg (by omega), if_neg (by decide)]
  | true =>
   refine Ev.step (f := fun k => qaD.j1 k l a1 a2 (!(wi a1 0 20 && wi a2 a1 20))) (fun k => ?_) ?_
   ·
    simp only [qaD.l0, qkN, Option.bind_some]; rw [if_neg (by omega), if_pos trivial]
    cases wi a1 0 20 <;> simp
   ·
    unfold qjZ; rw [if_pos rfl]
    cases hq : (wi a1 0 20 && wi a2 a1 20) with
    | true =>
     refine Ev.step (f := fun k => qaD.l1 k a1 a2 l (l.length : Int) ((0 : Nat) : Int) 0 0) (fun k => ?_) (qoZ l a1 a2 hn l.length 0 0 0 (by omega))
     simp [qaD.j1]
    | false =>
     refine Ev.step (f := fun _ => some (0, 0, 7)) (fun k => ?_) (Ev.now _)
     simp [qaD.j1]
 | succ d ih =>
  intro i b hi
  have hlt : i < l.length := by omega
  have hw := wr1 i l.length hlt (by omega)
  rw [List.drop_eq_getElem_cons hlt, List.all_cons, ← Bool.and_assoc]
  refine Ev.step (f := fun k => qaD.l0 k l a1 a2 (b && vS l[i]) l (l.length : Int) ((i + 1 : Nat) : Int)) (fun k => ?_) (ih (i + 1) _ (by omega))
  simp only [qaD.l0, qkN, qnu, Option.bind_some, rd68 l i hlt, hw]
  rw [if_pos (by omega), if_pos (by omega), if_pos (by omega)]
  cases b with
  | false => simp
  | true =>
   cases hq : wi l[i].f0 0 10000 <;> simp [vS, hq]
theorem qp0 : ∀ (d i : Nat) (s t : Int), i + d = l.length → Ev (fun k => qal.l1 k l a1 a2 (i : Int) s t) ((agL a1 a2 (l.drop i) s t).1, (agL a1 a2 (l.drop i) s t).2, 0) := by
 intro d
 induction d with
 | zero =>
  intro i s t hi
  refine Ev.step (f := fun _ => some (s, t, 0)) (fun k => ?_) ?_
  ·
   simp only [qal.l1]
   rw [if_neg (by omega)]
  ·
   rw [List.drop_eq_nil_of_le (by omega)]
   exact Ev.now _
 | succ d ih =>
  intro i s t hi
  have hlt : i < l.length := by omega
  rw [List.drop_eq_getElem_cons hlt]
  have hw := wr1 i l.length hlt (by omega)
  refine Ev.step (f := fun k => qal.j4 k l a1 a2 (i : Int) (decide (a1 ≤ l[i].f1.f0 ∧ l[i].f1.f1 ≤ a2)) s t l[i].f1.f0 l[i].f1.f1) (fun k => ?_) ?_
  ·
   simp only [qal.l1, rd68 l i hlt]
   rw [if_pos (by omega), if_pos (by omega)]
   by_cases h1 : a1 ≤ l[i].f1.f0
   ·
    rw [if_pos h1]
    simp [h1]
   ·
    rw [if_neg h1]
    simp [h1]
  ·
   refine Ev.step (f := fun k => qal.l1 k l a1 a2 ((i + 1 : Nat) : Int) (if a1 ≤ l[i].f1.f0 ∧ l[i].f1.f1 ≤ a2 then wrap64 (s + l[i].f0) else s) (if a1 ≤ l[i].f1.f1 ∧ l[i].f1.f0 ≤ a2 then wrap64 (t + l[i].f0) else t)) (fun k => ?_) (ih (i + 1) _ _ (by omega))
   have g1 : (0 : Int) ≤ (i : Int) := by omega
   have g2 : (i : Int) < (l.length : Int) := by omega
   simp only [qal.j4, hw, rd68 l i hlt, if_pos g1, if_pos g2]
   by_cases h1 : a1 ≤ l[i].f1.f0 ∧ l[i].f1.f1 ≤ a2 <;> by_cases h2 : a1 ≤ l[i].f1.f1 <;> by_cases h3 : l[i].f1.f0 ≤ a2 <;> simp [h1, h2, h3]
theorem qte : ∀ (d i : Nat) (b : Bool), i + d = l.length → Ev (fun k => qal.l0 k l a1 a2 b (i : Int)) (qjZ a1 a2 l (b && (l.drop i).all vS)) := by
 intro d
 induction d with
 | zero =>
  intro i b hi
  rw [List.drop_eq_nil_of_le (by omega), List.all_nil, Bool.and_true]
  refine Ev.step (f := fun k => qal.j1 k l a1 a2 b (i : Int) false) (fun k => ?_) ?_
  ·
   simp only [qal.l0]
   have : decide ((i : Int) < (l.length : Int)) = false := decide_eq_false (by omega)
   rw [this]
   cases b <;> simp
  cases b with
  | false =>
   refine Ev.step (f := fun _ => some (0, 0, 90)) (fun k => ?_) (Ev.now _)
   simp [qal.j1]
  | true =>
   refine Ev.step (f := fun k => qal.j2 k l a1 a2 (!(wi a1 0 20 && wi a2 a1 20))) (fun k => ?_) ?_
   ·
    simp only [qal.j1, qj1, Option.bind_some]
    cases wi a1 0 20 <;> simp
   ·
    unfold qjZ; rw [if_pos rfl]
    cases hq : (wi a1 0 20 && wi a2 a1 20) with
    | true =>
     refine Ev.step (f := fun k => qal.l1 k l a1 a2 ((0 : Nat) : Int) 0 0) (fun k => ?_) (qp0 l a1 a2 hn l.length 0 0 0 (by omega))
     simp [qal.j2]
    | false =>
     refine Ev.step (f := fun _ => some (0, 0, 7)) (fun k => ?_) (Ev.now _)
     simp [qal.j2]
 | succ d ih =>
  intro i b hi
  have hlt : i < l.length := by omega
  have hw := wr1 i l.length hlt (by omega)
  have g1 : (0 : Int) ≤ (i : Int) := by omega
  have g2 : (i : Int) < (l.length : Int) := by omega
  cases b with
  | false =>
   rw [Bool.false_and]
   refine Ev.step (f := fun k => qal.j1 k l a1 a2 false (i : Int) false) (fun k => ?_) ?_
   ·
    simp [qal.l0]
   ·
    refine Ev.step (f := fun _ => some (0, 0, 90)) (fun k => ?_) (Ev.now _)
    simp [qal.j1]
  | true =>
   rw [List.drop_eq_getElem_cons hlt, List.all_cons, Bool.true_and]
   refine Ev.step (f := fun k => qal.j1 k l a1 a2 true (i : Int) true) (fun k => ?_) ?_
   ·
    simp [qal.l0, hlt]
   ·
    refine Ev.step (f := fun k => qal.l0 k l a1 a2 (vS l[i]) ((i + 1 : Nat) : Int)) (fun k => ?_) (ih (i + 1) _ (by omega)); simp only [qal.j1, qj1, qnn, Option.bind_some, rd68 l i hlt, hw]; rw [if_pos trivial, if_pos g1, if_pos g2]
    cases hq : wi l[i].f0 0 10000 <;> simp [vS, hq]
end
theorem qmS (l : List S68) (a1 a2 : Int) (hn : l.length ≤ 9223372036854775807) : Ev (fun k => qaD.f k l a1 a2) (qjZ a1 a2 l (decide ((l.length : Int) ≤ 20) && l.all vS)) := qqa l a1 a2 hn l.length 0 _ (by omega)
theorem qnN (l : List S68) (a1 a2 : Int) (hn : l.length ≤ 9223372036854775807) : Ev (fun k => qal.f k l a1 a2) (qjZ a1 a2 l (decide ((l.length : Int) ≤ 20) && l.all vS)) := qte l a1 a2 hn l.length 0 _ (by omega)
theorem StockAges (l : List S68) (a1 a2 : Int) (hl : l.length * 24 ≤ 140737488351232) (hp : ∀ x ∈ l, W68 x) (h1 : Wf a1) (h2 : Wf a2) : ∃ k, qec.f k l a1 a2 = some true := by
 refine Ev.rounds (Ev.bind (qmS l a1 a2 (by omega)) (Ev.bind (qnN l a1 a2 (by omega)) ?_))
 refine ⟨0, fun k _ => ?_⟩
 simp [qdg.f]
end Go.Proofs.Ytmhomdohhihlcaa.P
