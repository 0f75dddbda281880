/- What the statement StockPlays leans on, part 6 of 6: contracts of the program's functions; conditions: none. -/
import Derived.Deep.RegionHeld3
import Derived.Deep.Slices
import Derived.ChangeSame
import Derived.OpenShut
import Derived.SizedLaws
import Derived.Lib.SmallJoins
import Derived.Test.YtmhomdohhihlcaaStockPlaysx0
import Derived.Test.YtmhomdohhihlcaaStockPlaysx1
import Derived.Test.YtmhomdohhihlcaaStockPlaysx2
import Derived.Test.YtmhomdohhihlcaaStockPlaysx3
import Derived.Test.YtmhomdohhihlcaaStockPlaysx4
set_option linter.unusedVariables false
set_option linter.unusedSimpArgs false
set_option linter.constructorNameAsVariable false
namespace Go.Proofs.Ytmhomdohhihlcaa.P
open Go.RowKit Go.Proofs.YtmhomdohhihlcaaW.PrintWords Go.Proofs.YtmhomdohhihlcaaW.PrintLast Go.Proofs.YtmhomdohhihlcaaW.PrintMore
attribute [local go_sem] qbT qbR qb7 qb6 qbH qbG qbS qbU
def qd3.f  : Option ((List (S39)) × List Int × (List (List (List Int)))) := (qdy.f).bind fun qhl => ((qdS.f).bind fun qfw => (some ((([(⟨qhl.1, qhl.2.1, qhl.2.2.1, qhl.2.2.2.1, qhl.2.2.2.2⟩ : S39), (⟨qfw.1, qfw.2.1, qfw.2.2.1, qfw.2.2.2.1, qfw.2.2.2.2⟩ : S39)] : List (S39))), (([40, 80] : List Int)), (([(([(([90, 80] : List Int)), (([10, 10] : List Int))] : List (List Int))), (([(([0, 0] : List Int)), (([0, 0] : List Int))] : List (List Int)))] : List (List (List Int)))))))
set_option maxHeartbeats 8000000 in
set_option maxRecDepth 100000 in
theorem qd3.calls  (r1 : List (S39)) (r2 : List Int) (r3 : List (List (List Int))) (w : World) (h : qd3.f  = some (r1, r2, r3)) :
  Calls Try.prog 58 #[] w fun e w' => ∃ v0_ v1_ v2_ : Value, e = .returned (.agg #[v0_, v1_, v2_]) ∧ Kd.N k39 39 w' w.heap.size (fun k_ => (w.heap.size ≤ k_) ∧ some k_ ≠ (v1_ : Value).ownBlock ∧ some k_ ≠ (v2_ : Value).ownBlock) v0_ r1 ∧ Kd.R (Kd.int .i64) 3 w' w.heap.size (fun k_ => (w.heap.size ≤ k_)) v1_ r2 ∧ Kd.N (Kd.slice 37 (Kd.slice 3 (Kd.int .i64))) 63 w' w.heap.size (fun k_ => (w.heap.size ≤ k_) ∧ some k_ ≠ (v0_ : Value).ownBlock ∧ some k_ ≠ (v1_ : Value).ownBlock) v2_ r3 ∧ Below w.heap.size w w' := by
 have hu47 := Try.underlying47
 have HB := qaa.mk (Below.refl w.heap.size w)
 have H : ((qdy.f).bind fun qhl => ((qdS.f).bind fun qfw => (some ((([(⟨qhl.1, qhl.2.1, qhl.2.2.1, qhl.2.2.2.1, qhl.2.2.2.2⟩ : S39), (⟨qfw.1, qfw.2.1, qfw.2.2.1, qfw.2.2.2.1, qfw.2.2.2.2⟩ : S39)] : List (S39))), (([40, 80] : List Int)), (([(([(([90, 80] : List Int)), (([10, 10] : List Int))] : List (List Int))), (([(([0, 0] : List Int)), (([0, 0] : List Int))] : List (List Int)))] : List (List (List Int)))))))) = some (r1, r2, r3) := h
 clear h
 replace H := Option.bind_eq_some_iff.mp H
 obtain ⟨⟨t259, t262, t265, t268, t269⟩, A10, H⟩ := H
 replace H : ((qdS.f).bind fun qfw => (some ((([(⟨t259, t262, t265, t268, t269⟩ : S39), (⟨qfw.1, qfw.2.1, qfw.2.2.1, qfw.2.2.2.1, qfw.2.2.2.2⟩ : S39)] : List (S39))), (([40, 80] : List Int)), (([(([(([90, 80] : List Int)), (([10, 10] : List Int))] : List (List Int))), (([(([0, 0] : List Int)), (([0, 0] : List Int))] : List (List Int)))] : List (List (List Int))))))) = some (r1, r2, r3) := H
 have A1 := qaa.mk A10
 clear A10
 replace H := Option.bind_eq_some_iff.mp H
 obtain ⟨⟨t270, t273, t276, t279, t280⟩, A20, H⟩ := H
 replace H : (some ((([(⟨t259, t262, t265, t268, t269⟩ : S39), (⟨t270, t273, t276, t279, t280⟩ : S39)] : List (S39))), (([40, 80] : List Int)), (([(([(([90, 80] : List Int)), (([10, 10] : List Int))] : List (List Int))), (([(([0, 0] : List Int)), (([0, 0] : List Int))] : List (List Int)))] : List (List (List Int)))))) = some (r1, r2, r3) := H
 have A2 := qaa.mk A20
 clear A20
 obtain ⟨y281, qlR⟩ : ∃ y_ : List (S39), y_ = (([(⟨t259, t262, t265, t268, t269⟩ : S39), (⟨t270, t273, t276, t279, t280⟩ : S39)] : List (S39))) := ⟨_, rfl⟩
 replace H : (some (y281, (([40, 80] : List Int)), (([(([(([90, 80] : List Int)), (([10, 10] : List Int))] : List (List Int))), (([(([0, 0] : List Int)), (([0, 0] : List Int))] : List (List Int)))] : List (List (List Int)))))) = some (r1, r2, r3) := by first | (rw [qlR]; with_reducible exact H) | (have H2_ := (Option.bind_some _ _).symm.trans H; rw [qlR]; with_reducible exact H2_) | (have H2_ := (Option.bind_some _ _).symm.trans H; with_reducible exact H2_) | with_reducible exact H | (rw [qlR]; exact H) | exact H
 have qrO := qaa.mk qlR
 clear qlR
 obtain ⟨y284, qlS⟩ : ∃ y_ : List Int, y_ = (([40, 80] : List Int)) := ⟨_, rfl⟩
 replace H : (some (y281, y284, (([(([(([90, 80] : List Int)), (([10, 10] : List Int))] : List (List Int))), (([(([0, 0] : List Int)), (([0, 0] : List Int))] : List (List Int)))] : List (List (List Int)))))) = some (r1, r2, r3) := by first | (rw [qlS]; with_reducible exact H) | (have H2_ := (Option.bind_some _ _).symm.trans H; rw [qlS]; with_reducible exact H2_) | (have H2_ := (Option.bind_some _ _).symm.trans H; with_reducible exact H2_) | with_reducible exact H | (rw [qlS]; exact H) | exact H
 have qrP := qaa.mk qlS
 clear qlS
 obtain ⟨y287, qlT⟩ : ∃ y_ : List Int, y_ = (([90, 80] : List Int)) := ⟨_, rfl⟩
 replace H : (some (y281, y284, (([(([y287, (([10, 10] : List Int))] : List (List Int))), (([(([0, 0] : List Int)), (([0, 0] : List Int))] : List (List Int)))] : List (List (List Int)))))) = some (r1, r2, r3) := by first | (rw [qlT]; with_reducible exact H) | (have H2_ := (Option.bind_some _ _).symm.trans H; rw [qlT]; with_reducible exact H2_) | (have H2_ := (Option.bind_some _ _).symm.trans H; with_reducible exact H2_) | with_reducible exact H | (rw [qlT]; exact H) | exact H
 have qrQ := qaa.mk qlT
 clear qlT
 obtain ⟨y290, qlU⟩ : ∃ y_ : List Int, y_ = (([10, 10] : List Int)) := ⟨_, rfl⟩
 replace H : (some (y281, y284, (([(([y287, y290] : List (List Int))), (([(([0, 0] : List Int)), (([0, 0] : List Int))] : List (List Int)))] : List (List (List Int)))))) = some (r1, r2, r3) := by first | (rw [qlU]; with_reducible exact H) | (have H2_ := (Option.bind_some _ _).symm.trans H; rw [qlU]; with_reducible exact H2_) | (have H2_ := (Option.bind_some _ _).symm.trans H; with_reducible exact H2_) | with_reducible exact H | (rw [qlU]; exact H) | exact H
 have qrR := qaa.mk qlU
 clear qlU
 obtain ⟨y293, qlV⟩ : ∃ y_ : List (List Int), y_ = (([y287, y290] : List (List Int))) := ⟨_, rfl⟩
 replace H : (some (y281, y284, (([y293, (([(([0, 0] : List Int)), (([0, 0] : List Int))] : List (List Int)))] : List (List (List Int)))))) = some (r1, r2, r3) := by first | (rw [qlV]; with_reducible exact H) | (have H2_ := (Option.bind_some _ _).symm.trans H; rw [qlV]; with_reducible exact H2_) | (have H2_ := (Option.bind_some _ _).symm.trans H; with_reducible exact H2_) | with_reducible exact H | (rw [qlV]; exact H) | exact H
 have qrS := qaa.mk qlV
 clear qlV
 obtain ⟨y296, qlW⟩ : ∃ y_ : List Int, y_ = (([0, 0] : List Int)) := ⟨_, rfl⟩
 replace H : (some (y281, y284, (([y293, (([y296, (([0, 0] : List Int))] : List (List Int)))] : List (List (List Int)))))) = some (r1, r2, r3) := by first | (rw [qlW]; with_reducible exact H) | (have H2_ := (Option.bind_some _ _).symm.trans H; rw [qlW]; with_reducible exact H2_) | (have H2_ := (Option.bind_some _ _).symm.trans H; with_reducible exact H2_) | with_reducible exact H | (rw [qlW]; exact H) | exact H
 have qrT := qaa.mk qlW
 clear qlW
 obtain ⟨y299, qlX⟩ : ∃ y_ : List Int, y_ = (([0, 0] : List Int)) := ⟨_, rfl⟩
 replace H : (some (y281, y284, (([y293, (([y296, y299] : List (List Int)))] : List (List (List Int)))))) = some (r1, r2, r3) := by first | (rw [qlX]; with_reducible exact H) | (have H2_ := (Option.bind_some _ _).symm.trans H; rw [qlX]; with_reducible exact H2_) | (have H2_ := (Option.bind_some _ _).symm.trans H; with_reducible exact H2_) | with_reducible exact H | (rw [qlX]; exact H) | exact H
 have qrU := qaa.mk qlX
 clear qlX
 obtain ⟨y302, qlY⟩ : ∃ y_ : List (List Int), y_ = (([y296, y299] : List (List Int))) := ⟨_, rfl⟩
 replace H : (some (y281, y284, (([y293, y302] : List (List (List Int)))))) = some (r1, r2, r3) := by first | (rw [qlY]; with_reducible exact H) | (have H2_ := (Option.bind_some _ _).symm.trans H; rw [qlY]; with_reducible exact H2_) | (have H2_ := (Option.bind_some _ _).symm.trans H; with_reducible exact H2_) | with_reducible exact H | (rw [qlY]; exact H) | exact H
 have qrV := qaa.mk qlY
 clear qlY
 obtain ⟨y305, qlZ⟩ : ∃ y_ : List (List (List Int)), y_ = (([y293, y302] : List (List (List Int)))) := ⟨_, rfl⟩
 replace H : (some (y281, y284, y305)) = some (r1, r2, r3) := by first | (rw [qlZ]; with_reducible exact H) | (have H2_ := (Option.bind_some _ _).symm.trans H; rw [qlZ]; with_reducible exact H2_) | (have H2_ := (Option.bind_some _ _).symm.trans H; with_reducible exact H2_) | with_reducible exact H | (rw [qlZ]; exact H) | exact H
 have qrW := qaa.mk qlZ
 clear qlZ
 simp only [Option.some.injEq, Prod.mk.injEq] at H
 obtain ⟨rfl, rfl, rfl⟩ := H
 go_enter Try.func58, Try.ntmps58
 go_wp2_with (first | ((with_reducible refine qaN (N := 0) rfl ?_); refine qba ?hg (N := 0) ?hd (cs := #[.slice none 0 0, .slice none 0 0, .slice none 0 0]) (t := 47) ?hr ?_; (case hd => rfl); (case hg => rfl); (case hr => first | (go_simp; done) | (go_simp; rfl)); intro qbL hg w3 hbox hb; have n0_ := qaa.mk (qap (by repeat (first | (with_reducible first | exact HB.out | apply qac | apply qab | apply qag) | exact HB.out)) hb); have n1_ := qaa.mk (hbox); have n2_ := qaa.mk ((by rw [hg]; exact (qal (by repeat (first | (with_reducible first | exact HB.out | apply qac | apply qab | apply qag) | exact HB.out))) : w.heap.size ≤ qbL)); have n3_ := qaa.mk ((by rw [hg]; exact (qal (by repeat (first | (with_reducible first | exact HB.out | apply qac | apply qab | apply qag) | exact HB.out))) : w.heap.size ≤ qbL)); clear HB; have HB := n0_; have qbQ := n1_; have qE7 := n2_; have qcP := n3_; clear n0_ n1_ n2_ n3_; clear hb hbox hg) | ((with_reducible refine qaz (f := 57) rfl ?_); refine qbd (some 1) rfl rfl Try.func57 (by kernel_rfl) rfl #[] rfl (by (try simp only [List.map_toArray, List.map_cons, List.map_nil]); first | done | rfl | (simp only [List.length_drop, List.length_take]; rfl)) ?_; (with_reducible refine (qdy.calls  t259 t262 t265 t268 t269 _ A1.out).mono ?_); rintro e w4 ⟨v260, v263, v266, rfl, ho0, ho1, ho2, hb⟩; refine ⟨_, rfl, ?_⟩; have n0_ := qaa.mk (Kd.R_lower (Kd.R_newM (M := fun k_ => (w.heap.size ≤ k_)) ho0 (qal (by repeat (first | (with_reducible first | exact HB.out | apply qac | apply qab | apply qag | refine qah ?_ qcP.out) | exact HB.out))) (fun k_ h_ => h_)) (qal (by repeat (first | (with_reducible first | exact HB.out | apply qac | apply qab | apply qag | refine qah ?_ qcP.out) | exact HB.out)))); have n1_ := qaa.mk (Kd.R_lower (Kd.R_newM (M := fun k_ => (w.heap.size ≤ k_)) ho1 (qal (by repeat (first | (with_reducible first | exact HB.out | apply qac | apply qab | apply qag | refine qah ?_ qcP.out) | exact HB.out))) (fun k_ h_ => h_)) (qal (by repeat (first | (with_reducible first | exact HB.out | apply qac | apply qab | apply qag | refine qah ?_ qcP.out) | exact HB.out)))); have n2_ := qaa.mk (Kd.R_lower (Kd.R_newM (M := fun k_ => (w.heap.size ≤ k_)) ho2 (qal (by repeat (first | (with_reducible first | exact HB.out | apply qac | apply qab | apply qag | refine qah ?_ qcP.out) | exact HB.out))) (fun k_ h_ => h_)) (qal (by repeat (first | (with_reducible first | exact HB.out | apply qac | apply qab | apply qag | refine qah ?_ qcP.out) | exact HB.out)))); have n3_ := qaa.mk (qam (g := qbL) (o := .cells #[.slice none 0 0, .slice none 0 0, .slice none 0 0] 47 (0, 0)) (by (with_reducible repeat (first | refine qae ?_ _ | refine qai ?_ | refine qad ?_ _)); exact qbQ.out) hb); have n4_ := qaa.mk (qap (by repeat (first | (with_reducible first | exact HB.out | apply qac | apply qab | apply qag | refine qah ?_ qcP.out) | exact HB.out)) hb); clear qbQ; clear HB; have qhP := n0_; have qhQ := n1_; have qhR := n2_; have qbQ := n3_; have HB := n4_; clear n0_ n1_ n2_ n3_ n4_; (try clear hb); (try clear hb2); (try clear hk); (try clear hi); (try clear ho0); (try clear ho1); (try clear ho2)) | ((with_reducible refine qaz (f := 94) rfl ?_); refine qbd (some 2) rfl rfl Try.func94 (by kernel_rfl) rfl #[] rfl (by (try simp only [List.map_toArray, List.map_cons, List.map_nil]); first | done | rfl | (simp only [List.length_drop, List.length_take]; rfl)) ?_; (with_reducible refine (qdS.calls  t270 t273 t276 t279 t280 _ A2.out).mono ?_); rintro e w5 ⟨v271, v274, v277, rfl, ho0, ho1, ho2, hb⟩; refine ⟨_, rfl, ?_⟩; have n0_ := qaa.mk (Kd.R_mono (Kd.R_told (Kd.R_told (Kd.R_told (Kd.R_old (by (with_reducible repeat (first | apply Kd.R_alloc | apply Kd.R_drewN | apply Kd.R_drew)); exact qhP.out) hb) (Kd.R_base ho0)) (Kd.R_base ho1)) (Kd.R_base ho2)) (fun _ h_ => h_.1)); have n1_ := qaa.mk (Kd.R_mono (Kd.R_told (Kd.R_told (Kd.R_told (Kd.R_old (by (with_reducible repeat (first | apply Kd.R_alloc | apply Kd.R_drewN | apply Kd.R_drew)); exact qhQ.out) hb) (Kd.R_base ho0)) (Kd.R_base ho1)) (Kd.R_base ho2)) (fun _ h_ => h_.1)); have n2_ := qaa.mk (Kd.R_mono (Kd.R_told (Kd.R_told (Kd.R_told (Kd.R_old (by (with_reducible repeat (first | apply Kd.R_alloc | apply Kd.R_drewN | apply Kd.R_drew)); exact qhR.out) hb) (Kd.R_base ho0)) (Kd.R_base ho1)) (Kd.R_base ho2)) (fun _ h_ => h_.1)); have n3_ := qaa.mk (Kd.R_lower (Kd.R_new' (Kd.R_new' (Kd.R_new' (Kd.R_newM (M := fun k_ => (w.heap.size ≤ k_)) ho0 (qal (by repeat (first | (with_reducible first | exact HB.out | apply qac | apply qab | apply qag | refine qah ?_ qcP.out) | exact HB.out))) (fun k_ h_ => h_)) (Kd.R_lt (by (with_reducible repeat (first | apply Kd.R_alloc | apply Kd.R_drewN | apply Kd.R_drew)); exact qhP.out))) (Kd.R_lt (by (with_reducible repeat (first | apply Kd.R_alloc | apply Kd.R_drewN | apply Kd.R_drew)); exact qhQ.out))) (Kd.R_lt (by (with_reducible repeat (first | apply Kd.R_alloc | apply Kd.R_drewN | apply Kd.R_drew)); exact qhR.out))) (qal (by repeat (first | (with_reducible first | exact HB.out | apply qac | apply qab | apply qag | refine qah ?_ qcP.out) | exact HB.out)))); have n4_ := qaa.mk (Kd.R_lower (Kd.R_new' (Kd.R_new' (Kd.R_new' (Kd.R_newM (M := fun k_ => (w.heap.size ≤ k_)) ho1 (qal (by repeat (first | (with_reducible first | exact HB.out | apply qac | apply qab | apply qag | refine qah ?_ qcP.out) | exact HB.out))) (fun k_ h_ => h_)) (Kd.R_lt (by (with_reducible repeat (first | apply Kd.R_alloc | apply Kd.R_drewN | apply Kd.R_drew)); exact qhP.out))) (Kd.R_lt (by (with_reducible repeat (first | apply Kd.R_alloc | apply Kd.R_drewN | apply Kd.R_drew)); exact qhQ.out))) (Kd.R_lt (by (with_reducible repeat (first | apply Kd.R_alloc | apply Kd.R_drewN | apply Kd.R_drew)); exact qhR.out))) (qal (by repeat (first | (with_reducible first | exact HB.out | apply qac | apply qab | apply qag | refine qah ?_ qcP.out) | exact HB.out)))); have n5_ := qaa.mk (Kd.R_lower (Kd.R_new' (Kd.R_new' (Kd.R_new' (Kd.R_newM (M := fun k_ => (w.heap.size ≤ k_)) ho2 (qal (by repeat (first | (with_reducible first | exact HB.out | apply qac | apply qab | apply qag | refine qah ?_ qcP.out) | exact HB.out))) (fun k_ h_ => h_)) (Kd.R_lt (by (with_reducible repeat (first | apply Kd.R_alloc | apply Kd.R_drewN | apply Kd.R_drew)); exact qhP.out))) (Kd.R_lt (by (with_reducible repeat (first | apply Kd.R_alloc | apply Kd.R_drewN | apply Kd.R_drew)); exact qhQ.out))) (Kd.R_lt (by (with_reducible repeat (first | apply Kd.R_alloc | apply Kd.R_drewN | apply Kd.R_drew)); exact qhR.out))) (qal (by repeat (first | (with_reducible first | exact HB.out | apply qac | apply qab | apply qag | refine qah ?_ qcP.out) | exact HB.out)))); have n6_ := qaa.mk (qam (g := qbL) (o := .cells #[.slice none 0 0, .slice none 0 0, .slice none 0 0] 47 (0, 0)) (by (with_reducible repeat (first | refine qae ?_ _ | refine qai ?_ | refine qad ?_ _)); exact qbQ.out) hb); have n7_ := qaa.mk (qap (by repeat (first | (with_reducible first | exact HB.out | apply qac | apply qab | apply qag | refine qah ?_ qcP.out) | exact HB.out)) hb); clear qhP; clear qhQ; clear qhR; clear qbQ; clear HB; have qhP := n0_; have qhQ := n1_; have qhR := n2_; have qnp := n3_; have qnq := n4_; have qnr := n5_; have qbQ := n6_; have HB := n7_; clear n0_ n1_ n2_ n3_ n4_ n5_ n6_ n7_; (try clear hb); (try clear hb2); (try clear hk); (try clear hi); (try clear ho0); (try clear ho1); (try clear ho2); obtain ⟨Ao6, co6, eo6⟩ := Kd.R_slice qhP.out; subst eo6; obtain ⟨Ao7, co7, eo7⟩ := Kd.R_slice qhQ.out; subst eo7; obtain ⟨Ao8, co8, eo8⟩ := Kd.R_slice qhR.out; subst eo8; obtain ⟨Ao9, co9, eo9⟩ := Kd.R_slice qnp.out; subst eo9; obtain ⟨Ao10, co10, eo10⟩ := Kd.R_slice qnq.out; subst eo10; obtain ⟨Ao11, co11, eo11⟩ := Kd.R_slice qnr.out; subst eo11) | ((with_reducible refine qaN (N := 3) rfl ?_); refine Kd.N_lit k39 _ 39 ?hg (N' := 3) ?hd (xs := ([(⟨t259, t262, t265, t268, t269⟩ : S39), (⟨t270, t273, t276, t279, t280⟩ : S39)] : List (S39))) (inner := [.slice Ao6 t259.length co6, .slice Ao7 t262.length co7, .slice Ao8 t265.length co8, .int .i64 t268, .int .i64 t269, .slice Ao9 t270.length co9, .slice Ao10 t273.length co10, .slice Ao11 t276.length co11, .int .i64 t279, .int .i64 t280]) (ok := (fun k_ => (w.heap.size ≤ k_) ∧ k_ ≠ qbL)) (okp := (fun k_ => (w.heap.size ≤ k_) ∧ k_ ≠ qbL)) ?hr ?hp (fun _ hk => hk) ((show ∀ k_, w5.heap.size ≤ k_ → (fun k_ => (w.heap.size ≤ k_) ∧ k_ ≠ qbL) k_ from fun k_ hk => ⟨(Nat.le_trans (qal (by repeat (first | (with_reducible first | exact HB.out | apply qac | apply qab | apply qag | refine qah ?_ qcP.out) | exact HB.out))) hk), Kd.freshB (g := qbL) (o := .cells #[.slice none 0 0, .slice none 0 0, .slice none 0 0] 47 (0, 0)) (by (with_reducible repeat (first | refine qae ?_ _ | refine qai ?_ | refine qad ?_ _)); exact qbQ.out) k_ hk⟩) _ (Nat.le_refl _)) (Below.refl _ _) (Nat.le_refl _) (by simp) ?_; (case hd => rfl); (case hg => rfl); (case hr => first | (go_simp; done) | (go_simp; rfl)); (case hp => exact (Reps.c5 (show Kd.FK k39 _ _ (⟨t259, t262, t265, t268, t269⟩ : S39) [.slice Ao6 t259.length co6, .slice Ao7 t262.length co7, .slice Ao8 t265.length co8, .int .i64 t268, .int .i64 t269] from (qoo _ _ (⟨t259, t262, t265, t268, t269⟩ : S39) (Kd.R_reads' (Kd.R_mono (ok' := (fun k_ => (w.heap.size ≤ k_) ∧ k_ ≠ qbL)) (Kd.R_types (qhP.out) qbQ.out (by decide)) (fun k_ hk => ⟨hk.1.1.1.1.1, hk.2⟩))).2.1 (Kd.R_F (Kd.R_mono (ok' := (fun k_ => (w.heap.size ≤ k_) ∧ k_ ≠ qbL)) (Kd.R_types (qhP.out) qbQ.out (by decide)) (fun k_ hk => ⟨hk.1.1.1.1.1, hk.2⟩))) (Kd.R_reads' (Kd.R_mono (ok' := (fun k_ => (w.heap.size ≤ k_) ∧ k_ ≠ qbL)) (Kd.R_types (qhQ.out) qbQ.out (by decide)) (fun k_ hk => ⟨hk.1.1.1.1.1, hk.2⟩))).2.1 (Kd.R_F (Kd.R_mono (ok' := (fun k_ => (w.heap.size ≤ k_) ∧ k_ ≠ qbL)) (Kd.R_types (qhQ.out) qbQ.out (by decide)) (fun k_ hk => ⟨hk.1.1.1.1.1, hk.2⟩))) (Kd.R_reads' (Kd.R_mono (ok' := (fun k_ => (w.heap.size ≤ k_) ∧ k_ ≠ qbL)) (Kd.R_types (qhR.out) qbQ.out (by decide)) (fun k_ hk => ⟨hk.1.1.1.1.1, hk.2⟩))).2.1 (Kd.R_F (Kd.R_mono (ok' := (fun k_ => (w.heap.size ≤ k_) ∧ k_ ≠ qbL)) (Kd.R_types (qhR.out) qbQ.out (by decide)) (fun k_ hk => ⟨hk.1.1.1.1.1, hk.2⟩))))) (Reps.c5 (show Kd.FK k39 _ _ (⟨t270, t273, t276, t279, t280⟩ : S39) [.slice Ao9 t270.length co9, .slice Ao10 t273.length co10, .slice Ao11 t276.length co11, .int .i64 t279, .int .i64 t280] from (qoo _ _ (⟨t270, t273, t276, t279, t280⟩ : S39) (Kd.R_reads' (Kd.R_mono (ok' := (fun k_ => (w.heap.size ≤ k_) ∧ k_ ≠ qbL)) (Kd.R_types (qnp.out) qbQ.out (by decide)) (fun k_ hk => ⟨hk.1.1.1.1.1, hk.2⟩))).2.1 (Kd.R_F (Kd.R_mono (ok' := (fun k_ => (w.heap.size ≤ k_) ∧ k_ ≠ qbL)) (Kd.R_types (qnp.out) qbQ.out (by decide)) (fun k_ hk => ⟨hk.1.1.1.1.1, hk.2⟩))) (Kd.R_reads' (Kd.R_mono (ok' := (fun k_ => (w.heap.size ≤ k_) ∧ k_ ≠ qbL)) (Kd.R_types (qnq.out) qbQ.out (by decide)) (fun k_ hk => ⟨hk.1.1.1.1.1, hk.2⟩))).2.1 (Kd.R_F (Kd.R_mono (ok' := (fun k_ => (w.heap.size ≤ k_) ∧ k_ ≠ qbL)) (Kd.R_types (qnq.out) qbQ.out (by decide)) (fun k_ hk => ⟨hk.1.1.1.1.1, hk.2⟩))) (Kd.R_reads' (Kd.R_mono (ok' := (fun k_ => (w.heap.size ≤ k_) ∧ k_ ≠ qbL)) (Kd.R_types (qnr.out) qbQ.out (by decide)) (fun k_ hk => ⟨hk.1.1.1.1.1, hk.2⟩))).2.1 (Kd.R_F (Kd.R_mono (ok' := (fun k_ => (w.heap.size ≤ k_) ∧ k_ ≠ qbL)) (Kd.R_types (qnr.out) qbQ.out (by decide)) (fun k_ hk => ⟨hk.1.1.1.1.1, hk.2⟩))))) (Reps.none _ _)))); intro v282 w12 ho13 hb hg_ hnew_; clear hg_ hnew_; (first | rw [← qrO.out] at ho13 | (simp only [Int.reduceToNat] at ho13; rw [← qrO.out] at ho13)); have n0_ := qaa.mk (Kd.N_lower ho13 (qal (by repeat (first | (with_reducible first | exact HB.out | apply qac | apply qab | apply qag | refine qah ?_ qcP.out) | exact HB.out)))); have n1_ := qaa.mk (qam (g := qbL) (o := .cells #[.slice none 0 0, .slice none 0 0, .slice none 0 0] 47 (0, 0)) (by (with_reducible repeat (first | refine qae ?_ _ | refine qai ?_ | refine qad ?_ _)); exact qbQ.out) hb); have n2_ := qaa.mk (qap (by repeat (first | (with_reducible first | exact HB.out | apply qac | apply qab | apply qag | refine qah ?_ qcP.out) | exact HB.out)) hb); clear qbQ; clear HB; clear qhP; clear qhQ; clear qhR; clear qnp; clear qnq; clear qnr; have qc0 := n0_; have qbQ := n1_; have HB := n2_; clear n0_ n1_ n2_; clear hb ho13) | ((with_reducible refine qaN (N := 4) rfl ?_); refine Kd.R_lit (Kd.int .i64) _ 3 ?hg (N := 4) ?hd (xs := ([40, 80] : List Int)) (inner := [.int .i64 40, .int .i64 80]) (ok := fun _ => True) (okp := fun _ => True) ?hr ?hp (fun _ hk => hk) trivial (Below.refl _ _) (Nat.le_refl _) (by simp) ?_; (case hd => rfl); (case hg => rfl); (case hr => first | (go_simp; done) | (go_simp; rfl)); (case hp => exact (Reps.one (show Kd.M (Kd.int .i64) _ _ _ 40 [.int .i64 40] from rfl) (Reps.one (show Kd.M (Kd.int .i64) _ _ _ 80 [.int .i64 80] from rfl) (Reps.none _ _)))); intro v285 w14 ho15 hb hg_ hnew_; clear hg_ hnew_; (first | rw [← qrP.out] at ho15 | (simp only [Int.reduceToNat] at ho15; rw [← qrP.out] at ho15)); have n0_ := qaa.mk (Kd.N_elder' (by (with_reducible repeat (first | apply Kd.N_alloc | apply Kd.N_drewN | apply Kd.N_drew)); exact qc0.out) (Kd.R_base ho15) hb); have n1_ := qaa.mk (Kd.R_lower (Kd.R_newM (M := fun k_ => (w.heap.size ≤ k_)) ho15 (qal (by repeat (first | (with_reducible first | exact HB.out | apply qac | apply qab | apply qag | refine qah ?_ qcP.out) | exact HB.out))) (fun k_ h_ => h_)) (qal (by repeat (first | (with_reducible first | exact HB.out | apply qac | apply qab | apply qag | refine qah ?_ qcP.out) | exact HB.out)))); have n2_ := qaa.mk (qam (g := qbL) (o := .cells #[.slice none 0 0, .slice none 0 0, .slice none 0 0] 47 (0, 0)) (by (with_reducible repeat (first | refine qae ?_ _ | refine qai ?_ | refine qad ?_ _)); exact qbQ.out) hb); have n3_ := qaa.mk (qap (by repeat (first | (with_reducible first | exact HB.out | apply qac | apply qab | apply qag | refine qah ?_ qcP.out) | exact HB.out)) hb); clear qc0; clear qbQ; clear HB; have qc0 := n0_; have qdr := n1_; have qbQ := n2_; have HB := n3_; clear n0_ n1_ n2_ n3_; clear hb ho15) | ((with_reducible refine qaN (N := 5) rfl ?_); refine Kd.R_lit (Kd.int .i64) _ 3 ?hg (N := 5) ?hd (xs := ([90, 80] : List Int)) (inner := [.int .i64 90, .int .i64 80]) (ok := fun _ => True) (okp := fun _ => True) ?hr ?hp (fun _ hk => hk) trivial (Below.refl _ _) (Nat.le_refl _) (by simp) ?_; (case hd => rfl); (case hg => rfl); (case hr => first | (go_simp; done) | (go_simp; rfl)); (case hp => exact (Reps.one (show Kd.M (Kd.int .i64) _ _ _ 90 [.int .i64 90] from rfl) (Reps.one (show Kd.M (Kd.int .i64) _ _ _ 80 [.int .i64 80] from rfl) (Reps.none _ _)))); intro v288 w16 ho17 hb hg_ hnew_; clear hg_ hnew_; (first | rw [← qrQ.out] at ho17 | (simp only [Int.reduceToNat] at ho17; rw [← qrQ.out] at ho17)); have n0_ := qaa.mk (Kd.N_elder' (by (with_reducible repeat (first | apply Kd.N_alloc | apply Kd.N_drewN | apply Kd.N_drew)); exact qc0.out) (Kd.R_base ho17) hb); have n1_ := qaa.mk (Kd.R_elder' (by (with_reducible repeat (first | apply Kd.R_alloc | apply Kd.R_drewN | apply Kd.R_drew)); exact qdr.out) (Kd.R_base ho17) hb); have n2_ := qaa.mk (Kd.R_lower (Kd.R_new' (Kd.R_newM (M := fun k_ => (w.heap.size ≤ k_)) ho17 (qal (by repeat (first | (with_reducible first | exact HB.out | apply qac | apply qab | apply qag | refine qah ?_ qcP.out) | exact HB.out))) (fun k_ h_ => h_)) (Kd.R_lt (by (with_reducible repeat (first | apply Kd.R_alloc | apply Kd.R_drewN | apply Kd.R_drew)); exact qdr.out))) (qal (by repeat (first | (with_reducible first | exact HB.out | apply qac | apply qab | apply qag | refine qah ?_ qcP.out) | exact HB.out)))); have n3_ := qaa.mk (qam (g := qbL) (o := .cells #[.slice none 0 0, .slice none 0 0, .slice none 0 0] 47 (0, 0)) (by (with_reducible repeat (first | refine qae ?_ _ | refine qai ?_ | refine qad ?_ _)); exact qbQ.out) hb); have n4_ := qaa.mk (qap (by repeat (first | (with_reducible first | exact HB.out | apply qac | apply qab | apply qag | refine qah ?_ qcP.out) | exact HB.out)) hb); clear qc0; clear qdr; clear qbQ; clear HB; have qc0 := n0_; have qdr := n1_; have qiR := n2_; have qbQ := n3_; have HB := n4_; clear n0_ n1_ n2_ n3_ n4_; clear hb ho17) | ((with_reducible refine qaN (N := 6) rfl ?_); refine Kd.R_lit (Kd.int .i64) _ 3 ?hg (N := 6) ?hd (xs := ([10, 10] : List Int)) (inner := [.int .i64 10, .int .i64 10]) (ok := fun _ => True) (okp := fun _ => True) ?hr ?hp (fun _ hk => hk) trivial (Below.refl _ _) (Nat.le_refl _) (by simp) ?_; (case hd => rfl); (case hg => rfl); (case hr => first | (go_simp; done) | (go_simp; rfl)); (case hp => exact (Reps.one (show Kd.M (Kd.int .i64) _ _ _ 10 [.int .i64 10] from rfl) (Reps.one (show Kd.M (Kd.int .i64) _ _ _ 10 [.int .i64 10] from rfl) (Reps.none _ _)))); intro v291 w18 ho19 hb hg_ hnew_; clear hg_ hnew_; (first | rw [← qrR.out] at ho19 | (simp only [Int.reduceToNat] at ho19; rw [← qrR.out] at ho19)); have n0_ := qaa.mk (Kd.N_elder' (by (with_reducible repeat (first | apply Kd.N_alloc | apply Kd.N_drewN | apply Kd.N_drew)); exact qc0.out) (Kd.R_base ho19) hb); have n1_ := qaa.mk (Kd.R_elder' (by (with_reducible repeat (first | apply Kd.R_alloc | apply Kd.R_drewN | apply Kd.R_drew)); exact qdr.out) (Kd.R_base ho19) hb); have n2_ := qaa.mk (Kd.R_elder' (by (with_reducible repeat (first | apply Kd.R_alloc | apply Kd.R_drewN | apply Kd.R_drew)); exact qiR.out) (Kd.R_base ho19) hb); have n3_ := qaa.mk (Kd.R_lower (Kd.R_new' (Kd.R_new' (Kd.R_newM (M := fun k_ => (w.heap.size ≤ k_)) ho19 (qal (by repeat (first | (with_reducible first | exact HB.out | apply qac | apply qab | apply qag | refine qah ?_ qcP.out) | exact HB.out))) (fun k_ h_ => h_)) (Kd.R_lt (by (with_reducible repeat (first | apply Kd.R_alloc | apply Kd.R_drewN | apply Kd.R_drew)); exact qdr.out))) (Kd.R_lt (by (with_reducible repeat (first | apply Kd.R_alloc | apply Kd.R_drewN | apply Kd.R_drew)); exact qiR.out))) (qal (by repeat (first | (with_reducible first | exact HB.out | apply qac | apply qab | apply qag | refine qah ?_ qcP.out) | exact HB.out)))); have n4_ := qaa.mk (qam (g := qbL) (o := .cells #[.slice none 0 0, .slice none 0 0, .slice none 0 0] 47 (0, 0)) (by (with_reducible repeat (first | refine qae ?_ _ | refine qai ?_ | refine qad ?_ _)); exact qbQ.out) hb); have n5_ := qaa.mk (qap (by repeat (first | (with_reducible first | exact HB.out | apply qac | apply qab | apply qag | refine qah ?_ qcP.out) | exact HB.out)) hb); clear qc0; clear qdr; clear qiR; clear qbQ; clear HB; have qc0 := n0_; have qdr := n1_; have qiR := n2_; have qns := n3_; have qbQ := n4_; have HB := n5_; clear n0_ n1_ n2_ n3_ n4_ n5_; clear hb ho19; obtain ⟨Ao20, co20, eo20⟩ := Kd.R_slice qiR.out; subst eo20; obtain ⟨Ao21, co21, eo21⟩ := Kd.R_slice qns.out; subst eo21) | ((with_reducible refine qaN (N := 7) rfl ?_); refine Kd.N_lit (Kd.slice 3 (Kd.int .i64)) _ 37 ?hg (N' := 7) ?hd (xs := ([y287, y290] : List (List Int))) (inner := [.slice Ao20 y287.length co20, .slice Ao21 y290.length co21]) (ok := (fun k_ => (w.heap.size ≤ k_) ∧ some k_ ≠ (v282 : Value).ownBlock ∧ some k_ ≠ (v285 : Value).ownBlock ∧ k_ ≠ qbL)) (okp := (fun k_ => (w.heap.size ≤ k_) ∧ some k_ ≠ (v282 : Value).ownBlock ∧ some k_ ≠ (v285 : Value).ownBlock ∧ k_ ≠ qbL)) ?hr ?hp (fun _ hk => hk) ((show ∀ k_, w18.heap.size ≤ k_ → (fun k_ => (w.heap.size ≤ k_) ∧ some k_ ≠ (v282 : Value).ownBlock ∧ some k_ ≠ (v285 : Value).ownBlock ∧ k_ ≠ qbL) k_ from fun k_ hk => ⟨(Nat.le_trans (qal (by repeat (first | (with_reducible first | exact HB.out | apply qac | apply qab | apply qag | refine qah ?_ qcP.out) | exact HB.out))) hk), Kd.fresh' (Kd.N_lt (by (with_reducible repeat (first | apply Kd.N_alloc | apply Kd.N_drewN | apply Kd.N_drew)); exact qc0.out)) k_ hk, Kd.fresh' (Kd.R_lt (by (with_reducible repeat (first | apply Kd.R_alloc | apply Kd.R_drewN | apply Kd.R_drew)); exact qdr.out)) k_ hk, Kd.freshB (g := qbL) (o := .cells #[.slice none 0 0, .slice none 0 0, .slice none 0 0] 47 (0, 0)) (by (with_reducible repeat (first | refine qae ?_ _ | refine qai ?_ | refine qad ?_ _)); exact qbQ.out) k_ hk⟩) _ (Nat.le_refl _)) (Below.refl _ _) (Nat.le_refl _) (by simp) ?_; (case hd => rfl); (case hg => rfl); (case hr => first | (go_simp; done) | (go_simp; rfl)); (case hp => exact (Reps.one (show Kd.FK (Kd.slice 3 (Kd.int .i64)) _ _ y287 [.slice Ao20 y287.length co20] from (Kd.FK_slice_mk (Kd.R_reads' (Kd.R_mono (ok' := (fun k_ => (w.heap.size ≤ k_) ∧ some k_ ≠ (v282 : Value).ownBlock ∧ some k_ ≠ (v285 : Value).ownBlock ∧ k_ ≠ qbL)) (Kd.R_types (Kd.R_apart' (qiR.out) (Kd.N_typed qc0.out) (by decide)) qbQ.out (by decide)) (fun k_ hk => ⟨hk.1.1.1.1.1, ⟨hk.1.2, ⟨hk.1.1.1.2, hk.2⟩⟩⟩))).2.1 (Kd.R_F (Kd.R_mono (ok' := (fun k_ => (w.heap.size ≤ k_) ∧ some k_ ≠ (v282 : Value).ownBlock ∧ some k_ ≠ (v285 : Value).ownBlock ∧ k_ ≠ qbL)) (Kd.R_types (Kd.R_apart' (qiR.out) (Kd.N_typed qc0.out) (by decide)) qbQ.out (by decide)) (fun k_ hk => ⟨hk.1.1.1.1.1, ⟨hk.1.2, ⟨hk.1.1.1.2, hk.2⟩⟩⟩))))) (Reps.one (show Kd.FK (Kd.slice 3 (Kd.int .i64)) _ _ y290 [.slice Ao21 y290.length co21] from (Kd.FK_slice_mk (Kd.R_reads' (Kd.R_mono (ok' := (fun k_ => (w.heap.size ≤ k_) ∧ some k_ ≠ (v282 : Value).ownBlock ∧ some k_ ≠ (v285 : Value).ownBlock ∧ k_ ≠ qbL)) (Kd.R_types (Kd.R_apart' (qns.out) (Kd.N_typed qc0.out) (by decide)) qbQ.out (by decide)) (fun k_ hk => ⟨hk.1.1.1.1.1, ⟨hk.1.2, ⟨hk.1.1.1.2, hk.2⟩⟩⟩))).2.1 (Kd.R_F (Kd.R_mono (ok' := (fun k_ => (w.heap.size ≤ k_) ∧ some k_ ≠ (v282 : Value).ownBlock ∧ some k_ ≠ (v285 : Value).ownBlock ∧ k_ ≠ qbL)) (Kd.R_types (Kd.R_apart' (qns.out) (Kd.N_typed qc0.out) (by decide)) qbQ.out (by decide)) (fun k_ hk => ⟨hk.1.1.1.1.1, ⟨hk.1.2, ⟨hk.1.1.1.2, hk.2⟩⟩⟩))))) (Reps.none _ _)))); intro v294 w22 ho23 hb hg_ hnew_; clear hg_ hnew_; (first | rw [← qrS.out] at ho23 | (simp only [Int.reduceToNat] at ho23; rw [← qrS.out] at ho23)); have n0_ := qaa.mk (Kd.N_elder' (by (with_reducible repeat (first | apply Kd.N_alloc | apply Kd.N_drewN | apply Kd.N_drew)); exact qc0.out) (Kd.N_base ho23) hb); have n1_ := qaa.mk (Kd.R_below (by (with_reducible repeat (first | apply Kd.R_alloc | apply Kd.R_drewN | apply Kd.R_drew)); exact qdr.out) hb); have n2_ := qaa.mk (Kd.N_lower ho23 (qal (by repeat (first | (with_reducible first | exact HB.out | apply qac | apply qab | apply qag | refine qah ?_ qcP.out) | exact HB.out)))); have n3_ := qaa.mk (qam (g := qbL) (o := .cells #[.slice none 0 0, .slice none 0 0, .slice none 0 0] 47 (0, 0)) (by (with_reducible repeat (first | refine qae ?_ _ | refine qai ?_ | refine qad ?_ _)); exact qbQ.out) hb); have n4_ := qaa.mk (qap (by repeat (first | (with_reducible first | exact HB.out | apply qac | apply qab | apply qag | refine qah ?_ qcP.out) | exact HB.out)) hb); clear qc0; clear qdr; clear qbQ; clear HB; clear qiR; clear qns; have qc0 := n0_; have qdr := n1_; have qfb := n2_; have qbQ := n3_; have HB := n4_; clear n0_ n1_ n2_ n3_ n4_; clear hb ho23) | ((with_reducible refine qaN (N := 8) rfl ?_); refine Kd.R_lit (Kd.int .i64) _ 3 ?hg (N := 8) ?hd (xs := ([0, 0] : List Int)) (inner := [.int .i64 0, .int .i64 0]) (ok := fun _ => True) (okp := fun _ => True) ?hr ?hp (fun _ hk => hk) trivial (Below.refl _ _) (Nat.le_refl _) (by simp) ?_; (case hd => rfl); (case hg => rfl); (case hr => first | (go_simp; done) | (go_simp; rfl)); (case hp => exact (Reps.one (show Kd.M (Kd.int .i64) _ _ _ 0 [.int .i64 0] from rfl) (Reps.one (show Kd.M (Kd.int .i64) _ _ _ 0 [.int .i64 0] from rfl) (Reps.none _ _)))); intro v297 w24 ho25 hb hg_ hnew_; clear hg_ hnew_; (first | rw [← qrT.out] at ho25 | (simp only [Int.reduceToNat] at ho25; rw [← qrT.out] at ho25)); have n0_ := qaa.mk (Kd.N_elder' (by (with_reducible repeat (first | apply Kd.N_alloc | apply Kd.N_drewN | apply Kd.N_drew)); exact qc0.out) (Kd.R_base ho25) hb); have n1_ := qaa.mk (Kd.R_elder' (by (with_reducible repeat (first | apply Kd.R_alloc | apply Kd.R_drewN | apply Kd.R_drew)); exact qdr.out) (Kd.R_base ho25) hb); have n2_ := qaa.mk (Kd.N_elder' (by (with_reducible repeat (first | apply Kd.N_alloc | apply Kd.N_drewN | apply Kd.N_drew)); exact qfb.out) (Kd.R_base ho25) hb); have n3_ := qaa.mk (Kd.R_lower (Kd.R_new' (Kd.R_newM (M := fun k_ => (w.heap.size ≤ k_)) ho25 (qal (by repeat (first | (with_reducible first | exact HB.out | apply qac | apply qab | apply qag | refine qah ?_ qcP.out) | exact HB.out))) (fun k_ h_ => h_)) (Kd.R_lt (by (with_reducible repeat (first | apply Kd.R_alloc | apply Kd.R_drewN | apply Kd.R_drew)); exact qdr.out))) (qal (by repeat (first | (with_reducible first | exact HB.out | apply qac | apply qab | apply qag | refine qah ?_ qcP.out) | exact HB.out)))); have n4_ := qaa.mk (qam (g := qbL) (o := .cells #[.slice none 0 0, .slice none 0 0, .slice none 0 0] 47 (0, 0)) (by (with_reducible repeat (first | refine qae ?_ _ | refine qai ?_ | refine qad ?_ _)); exact qbQ.out) hb); have n5_ := qaa.mk (qap (by repeat (first | (with_reducible first | exact HB.out | apply qac | apply qab | apply qag | refine qah ?_ qcP.out) | exact HB.out)) hb); clear qc0; clear qdr; clear qfb; clear qbQ; clear HB; have qc0 := n0_; have qdr := n1_; have qfb := n2_; have qiS := n3_; have qbQ := n4_; have HB := n5_; clear n0_ n1_ n2_ n3_ n4_ n5_; clear hb ho25) | ((with_reducible refine qaN (N := 9) rfl ?_); refine Kd.R_lit (Kd.int .i64) _ 3 ?hg (N := 9) ?hd (xs := ([0, 0] : List Int)) (inner := [.int .i64 0, .int .i64 0]) (ok := fun _ => True) (okp := fun _ => True) ?hr ?hp (fun _ hk => hk) trivial (Below.refl _ _) (Nat.le_refl _) (by simp) ?_; (case hd => rfl); (case hg => rfl); (case hr => first | (go_simp; done) | (go_simp; rfl)); (case hp => exact (Reps.one (show Kd.M (Kd.int .i64) _ _ _ 0 [.int .i64 0] from rfl) (Reps.one (show Kd.M (Kd.int .i64) _ _ _ 0 [.int .i64 0] from rfl) (Reps.none _ _)))); intro v300 w26 ho27 hb hg_ hnew_; clear hg_ hnew_; (first | rw [← qrU.out] at ho27 | (simp only [Int.reduceToNat] at ho27; rw [← qrU.out] at ho27)); have n0_ := qaa.mk (Kd.N_elder' (by (with_reducible repeat (first | apply Kd.N_alloc | apply Kd.N_drewN | apply Kd.N_drew)); exact qc0.out) (Kd.R_base ho27) hb); have n1_ := qaa.mk (Kd.R_elder' (by (with_reducible repeat (first | apply Kd.R_alloc | apply Kd.R_drewN | apply Kd.R_drew)); exact qdr.out) (Kd.R_base ho27) hb); have n2_ := qaa.mk (Kd.N_elder' (by (with_reducible repeat (first | apply Kd.N_alloc | apply Kd.N_drewN | apply Kd.N_drew)); exact qfb.out) (Kd.R_base ho27) hb); have n3_ := qaa.mk (Kd.R_elder' (by (with_reducible repeat (first | apply Kd.R_alloc | apply Kd.R_drewN | apply Kd.R_drew)); exact qiS.out) (Kd.R_base ho27) hb); have n4_ := qaa.mk (Kd.R_lower (Kd.R_new' (Kd.R_new' (Kd.R_newM (M := fun k_ => (w.heap.size ≤ k_)) ho27 (qal (by repeat (first | (with_reducible first | exact HB.out | apply qac | apply qab | apply qag | refine qah ?_ qcP.out) | exact HB.out))) (fun k_ h_ => h_)) (Kd.R_lt (by (with_reducible repeat (first | apply Kd.R_alloc | apply Kd.R_drewN | apply Kd.R_drew)); exact qdr.out))) (Kd.R_lt (by (with_reducible repeat (first | apply Kd.R_alloc | apply Kd.R_drewN | apply Kd.R_drew)); exact qiS.out))) (qal (by repeat (first | (with_reducible first | exact HB.out | apply qac | apply qab | apply qag | refine qah ?_ qcP.out) | exact HB.out)))); have n5_ := qaa.mk (qam (g := qbL) (o := .cells #[.slice none 0 0, .slice none 0 0, .slice none 0 0] 47 (0, 0)) (by (with_reducible repeat (first | refine qae ?_ _ | refine qai ?_ | refine qad ?_ _)); exact qbQ.out) hb); have n6_ := qaa.mk (qap (by repeat (first | (with_reducible first | exact HB.out | apply qac | apply qab | apply qag | refine qah ?_ qcP.out) | exact HB.out)) hb); clear qc0; clear qdr; clear qfb; clear qiS; clear qbQ; clear HB; have qc0 := n0_; have qdr := n1_; have qfb := n2_; have qiS := n3_; have qnt := n4_; have qbQ := n5_; have HB := n6_; clear n0_ n1_ n2_ n3_ n4_ n5_ n6_; clear hb ho27; obtain ⟨Ao28, co28, eo28⟩ := Kd.R_slice qiS.out; subst eo28; obtain ⟨Ao29, co29, eo29⟩ := Kd.R_slice qnt.out; subst eo29) | ((with_reducible refine qaN (N := 10) rfl ?_); refine Kd.N_lit (Kd.slice 3 (Kd.int .i64)) _ 37 ?hg (N' := 10) ?hd (xs := ([y296, y299] : List (List Int))) (inner := [.slice Ao28 y296.length co28, .slice Ao29 y299.length co29]) (ok := (fun k_ => (w.heap.size ≤ k_) ∧ some k_ ≠ (v282 : Value).ownBlock ∧ some k_ ≠ (v285 : Value).ownBlock ∧ some k_ ≠ (v294 : Value).ownBlock ∧ k_ ≠ qbL)) (okp := (fun k_ => (w.heap.size ≤ k_) ∧ some k_ ≠ (v282 : Value).ownBlock ∧ some k_ ≠ (v285 : Value).ownBlock ∧ some k_ ≠ (v294 : Value).ownBlock ∧ k_ ≠ qbL)) ?hr ?hp (fun _ hk => hk) ((show ∀ k_, w26.heap.size ≤ k_ → (fun k_ => (w.heap.size ≤ k_) ∧ some k_ ≠ (v282 : Value).ownBlock ∧ some k_ ≠ (v285 : Value).ownBlock ∧ some k_ ≠ (v294 : Value).ownBlock ∧ k_ ≠ qbL) k_ from fun k_ hk => ⟨(Nat.le_trans (qal (by repeat (first | (with_reducible first | exact HB.out | apply qac | apply qab | apply qag | refine qah ?_ qcP.out) | exact HB.out))) hk), Kd.fresh' (Kd.N_lt (by (with_reducible repeat (first | apply Kd.N_alloc | apply Kd.N_drewN | apply Kd.N_drew)); exact qc0.out)) k_ hk, Kd.fresh' (Kd.R_lt (by (with_reducible repeat (first | apply Kd.R_alloc | apply Kd.R_drewN | apply Kd.R_drew)); exact qdr.out)) k_ hk, Kd.fresh' (Kd.N_lt (by (with_reducible repeat (first | apply Kd.N_alloc | apply Kd.N_drewN | apply Kd.N_drew)); exact qfb.out)) k_ hk, Kd.freshB (g := qbL) (o := .cells #[.slice none 0 0, .slice none 0 0, .slice none 0 0] 47 (0, 0)) (by (with_reducible repeat (first | refine qae ?_ _ | refine qai ?_ | refine qad ?_ _)); exact qbQ.out) k_ hk⟩) _ (Nat.le_refl _)) (Below.refl _ _) (Nat.le_refl _) (by simp) ?_; (case hd => rfl); (case hg => rfl); (case hr => first | (go_simp; done) | (go_simp; rfl)); (case hp => exact (Reps.one (show Kd.FK (Kd.slice 3 (Kd.int .i64)) _ _ y296 [.slice Ao28 y296.length co28] from (Kd.FK_slice_mk (Kd.R_reads' (Kd.R_mono (ok' := (fun k_ => (w.heap.size ≤ k_) ∧ some k_ ≠ (v282 : Value).ownBlock ∧ some k_ ≠ (v285 : Value).ownBlock ∧ some k_ ≠ (v294 : Value).ownBlock ∧ k_ ≠ qbL)) (Kd.R_types (Kd.R_apart' (Kd.R_apart' (qiS.out) (Kd.N_typed qc0.out) (by decide)) (Kd.N_typed qfb.out) (by decide)) qbQ.out (by decide)) (fun k_ hk => ⟨hk.1.1.1.1.1.1, ⟨hk.1.1.2, ⟨hk.1.1.1.1.2, ⟨hk.1.2, hk.2⟩⟩⟩⟩))).2.1 (Kd.R_F (Kd.R_mono (ok' := (fun k_ => (w.heap.size ≤ k_) ∧ some k_ ≠ (v282 : Value).ownBlock ∧ some k_ ≠ (v285 : Value).ownBlock ∧ some k_ ≠ (v294 : Value).ownBlock ∧ k_ ≠ qbL)) (Kd.R_types (Kd.R_apart' (Kd.R_apart' (qiS.out) (Kd.N_typed qc0.out) (by decide)) (Kd.N_typed qfb.out) (by decide)) qbQ.out (by decide)) (fun k_ hk => ⟨hk.1.1.1.1.1.1, ⟨hk.1.1.2, ⟨hk.1.1.1.1.2, ⟨hk.1.2, hk.2⟩⟩⟩⟩))))) (Reps.one (show Kd.FK (Kd.slice 3 (Kd.int .i64)) _ _ y299 [.slice Ao29 y299.length co29] from (Kd.FK_slice_mk (Kd.R_reads' (Kd.R_mono (ok' := (fun k_ => (w.heap.size ≤ k_) ∧ some k_ ≠ (v282 : Value).ownBlock ∧ some k_ ≠ (v285 : Value).ownBlock ∧ some k_ ≠ (v294 : Value).ownBlock ∧ k_ ≠ qbL)) (Kd.R_types (Kd.R_apart' (Kd.R_apart' (qnt.out) (Kd.N_typed qc0.out) (by decide)) (Kd.N_typed qfb.out) (by decide)) qbQ.out (by decide)) (fun k_ hk => ⟨hk.1.1.1.1.1.1, ⟨hk.1.1.2, ⟨hk.1.1.1.1.2, ⟨hk.1.2, hk.2⟩⟩⟩⟩))).2.1 (Kd.R_F (Kd.R_mono (ok' := (fun k_ => (w.heap.size ≤ k_) ∧ some k_ ≠ (v282 : Value).ownBlock ∧ some k_ ≠ (v285 : Value).ownBlock ∧ some k_ ≠ (v294 : Value).ownBlock ∧ k_ ≠ qbL)) (Kd.R_types (Kd.R_apart' (Kd.R_apart' (qnt.out) (Kd.N_typed qc0.out) (by decide)) (Kd.N_typed qfb.out) (by decide)) qbQ.out (by decide)) (fun k_ hk => ⟨hk.1.1.1.1.1.1, ⟨hk.1.1.2, ⟨hk.1.1.1.1.2, ⟨hk.1.2, hk.2⟩⟩⟩⟩))))) (Reps.none _ _)))); intro v303 w30 ho31 hb hg_ hnew_; clear hg_ hnew_; (first | rw [← qrV.out] at ho31 | (simp only [Int.reduceToNat] at ho31; rw [← qrV.out] at ho31)); have n0_ := qaa.mk (Kd.N_elder' (by (with_reducible repeat (first | apply Kd.N_alloc | apply Kd.N_drewN | apply Kd.N_drew)); exact qc0.out) (Kd.N_base ho31) hb); have n1_ := qaa.mk (Kd.R_below (by (with_reducible repeat (first | apply Kd.R_alloc | apply Kd.R_drewN | apply Kd.R_drew)); exact qdr.out) hb); have n2_ := qaa.mk (Kd.N_elder' (by (with_reducible repeat (first | apply Kd.N_alloc | apply Kd.N_drewN | apply Kd.N_drew)); exact qfb.out) (Kd.N_base ho31) hb); have n3_ := qaa.mk (Kd.N_lower ho31 (qal (by repeat (first | (with_reducible first | exact HB.out | apply qac | apply qab | apply qag | refine qah ?_ qcP.out) | exact HB.out)))); have n4_ := qaa.mk (qam (g := qbL) (o := .cells #[.slice none 0 0, .slice none 0 0, .slice none 0 0] 47 (0, 0)) (by (with_reducible repeat (first | refine qae ?_ _ | refine qai ?_ | refine qad ?_ _)); exact qbQ.out) hb); have n5_ := qaa.mk (qap (by repeat (first | (with_reducible first | exact HB.out | apply qac | apply qab | apply qag | refine qah ?_ qcP.out) | exact HB.out)) hb); clear qc0; clear qdr; clear qfb; clear qbQ; clear HB; clear qiS; clear qnt; have qc0 := n0_; have qdr := n1_; have qfb := n2_; have qnu := n3_; have qbQ := n4_; have HB := n5_; clear n0_ n1_ n2_ n3_ n4_ n5_; clear hb ho31; obtain ⟨Ao32, co32, eo32⟩ := Kd.N_slice qfb.out; subst eo32; obtain ⟨Ao33, co33, eo33⟩ := Kd.N_slice qnu.out; subst eo33) | ((with_reducible refine qaN (N := 11) rfl ?_); refine Kd.N_lit (Kd.slice 37 (Kd.slice 3 (Kd.int .i64))) _ 63 ?hg (N' := 11) ?hd (xs := ([y293, y302] : List (List (List Int)))) (inner := [.slice Ao32 y293.length co32, .slice Ao33 y302.length co33]) (ok := (fun k_ => (w.heap.size ≤ k_) ∧ some k_ ≠ (v282 : Value).ownBlock ∧ some k_ ≠ (v285 : Value).ownBlock ∧ k_ ≠ qbL)) (okp := (fun k_ => (w.heap.size ≤ k_) ∧ some k_ ≠ (v282 : Value).ownBlock ∧ some k_ ≠ (v285 : Value).ownBlock ∧ k_ ≠ qbL)) ?hr ?hp (fun _ hk => hk) ((show ∀ k_, w30.heap.size ≤ k_ → (fun k_ => (w.heap.size ≤ k_) ∧ some k_ ≠ (v282 : Value).ownBlock ∧ some k_ ≠ (v285 : Value).ownBlock ∧ k_ ≠ qbL) k_ from fun k_ hk => ⟨(Nat.le_trans (qal (by repeat (first | (with_reducible first | exact HB.out | apply qac | apply qab | apply qag | refine qah ?_ qcP.out) | exact HB.out))) hk), Kd.fresh' (Kd.N_lt (by (with_reducible repeat (first | apply Kd.N_alloc | apply Kd.N_drewN | apply Kd.N_drew)); exact qc0.out)) k_ hk, Kd.fresh' (Kd.R_lt (by (with_reducible repeat (first | apply Kd.R_alloc | apply Kd.R_drewN | apply Kd.R_drew)); exact qdr.out)) k_ hk, Kd.freshB (g := qbL) (o := .cells #[.slice none 0 0, .slice none 0 0, .slice none 0 0] 47 (0, 0)) (by (with_reducible repeat (first | refine qae ?_ _ | refine qai ?_ | refine qad ?_ _)); exact qbQ.out) k_ hk⟩) _ (Nat.le_refl _)) (Below.refl _ _) (Nat.le_refl _) (by simp) ?_; (case hd => rfl); (case hg => rfl); (case hr => first | (go_simp; done) | (go_simp; rfl)); (case hp => exact (Reps.one (show Kd.FK (Kd.slice 37 (Kd.slice 3 (Kd.int .i64))) _ _ y293 [.slice Ao32 y293.length co32] from (Kd.FK_slice_mk (Kd.N_reads' (Kd.N_mono (ok' := (fun k_ => (w.heap.size ≤ k_) ∧ some k_ ≠ (v282 : Value).ownBlock ∧ some k_ ≠ (v285 : Value).ownBlock ∧ k_ ≠ qbL)) (qfb.out) (fun k_ hk => ⟨hk.1.1.1.1, ⟨hk.1.1.1.2.1, ⟨hk.1.1.1.2.2.1, hk.1.1.1.2.2.2⟩⟩⟩))).2.1 (Kd.N_F (Kd.N_mono (ok' := (fun k_ => (w.heap.size ≤ k_) ∧ some k_ ≠ (v282 : Value).ownBlock ∧ some k_ ≠ (v285 : Value).ownBlock ∧ k_ ≠ qbL)) (qfb.out) (fun k_ hk => ⟨hk.1.1.1.1, ⟨hk.1.1.1.2.1, ⟨hk.1.1.1.2.2.1, hk.1.1.1.2.2.2⟩⟩⟩))))) (Reps.one (show Kd.FK (Kd.slice 37 (Kd.slice 3 (Kd.int .i64))) _ _ y302 [.slice Ao33 y302.length co33] from (Kd.FK_slice_mk (Kd.N_reads' (Kd.N_mono (ok' := (fun k_ => (w.heap.size ≤ k_) ∧ some k_ ≠ (v282 : Value).ownBlock ∧ some k_ ≠ (v285 : Value).ownBlock ∧ k_ ≠ qbL)) (qnu.out) (fun k_ hk => ⟨hk.1, ⟨hk.2.1, ⟨hk.2.2.1, hk.2.2.2.2⟩⟩⟩))).2.1 (Kd.N_F (Kd.N_mono (ok' := (fun k_ => (w.heap.size ≤ k_) ∧ some k_ ≠ (v282 : Value).ownBlock ∧ some k_ ≠ (v285 : Value).ownBlock ∧ k_ ≠ qbL)) (qnu.out) (fun k_ hk => ⟨hk.1, ⟨hk.2.1, ⟨hk.2.2.1, hk.2.2.2.2⟩⟩⟩))))) (Reps.none _ _)))); intro v306 w34 ho35 hb hg_ hnew_; clear hg_ hnew_; (first | rw [← qrW.out] at ho35 | (simp only [Int.reduceToNat] at ho35; rw [← qrW.out] at ho35)); have n0_ := qaa.mk (Kd.N_elder' (by (with_reducible repeat (first | apply Kd.N_alloc | apply Kd.N_drewN | apply Kd.N_drew)); exact qc0.out) (Kd.N_base ho35) hb); have n1_ := qaa.mk (Kd.R_below (by (with_reducible repeat (first | apply Kd.R_alloc | apply Kd.R_drewN | apply Kd.R_drew)); exact qdr.out) hb); have n2_ := qaa.mk (Kd.N_lower ho35 (qal (by repeat (first | (with_reducible first | exact HB.out | apply qac | apply qab | apply qag | refine qah ?_ qcP.out) | exact HB.out)))); have n3_ := qaa.mk (qam (g := qbL) (o := .cells #[.slice none 0 0, .slice none 0 0, .slice none 0 0] 47 (0, 0)) (by (with_reducible repeat (first | refine qae ?_ _ | refine qai ?_ | refine qad ?_ _)); exact qbQ.out) hb); have n4_ := qaa.mk (qap (by repeat (first | (with_reducible first | exact HB.out | apply qac | apply qab | apply qag | refine qah ?_ qcP.out) | exact HB.out)) hb); clear qc0; clear qdr; clear qbQ; clear HB; clear qfb; clear qnu; have qc0 := n0_; have qdr := n1_; have qrX := n2_; have qbQ := n3_; have HB := n4_; clear n0_ n1_ n2_ n3_ n4_; clear hb ho35; obtain ⟨Ao36, co36, eo36⟩ := Kd.N_slice qrX.out; subst eo36; obtain ⟨Ao37, co37, eo37⟩ := Kd.R_slice qdr.out; subst eo37; obtain ⟨Ao38, co38, eo38⟩ := Kd.N_slice qc0.out; subst eo38; have qud : w34.cell? ⟨qbL, 0, none⟩ = some (.slice none 0 0) := (qaf qbQ.out 0).trans rfl; have que : w34.cell? ⟨qbL, 1, none⟩ = some (.slice none 0 0) := (qaf qbQ.out 1).trans rfl; have quf : w34.cell? ⟨qbL, 2, none⟩ = some (.slice none 0 0) := (qaf qbQ.out 2).trans rfl; have qug := qaj qbQ.out 0; have quh := qaj qbQ.out 1; have qui := qaj qbQ.out 2))
 refine bodyPost_ret (results_cell_row rfl _ _ qbL 47 #[.slice Ao38 y281.length co38, .slice Ao37 y284.length co37, .slice Ao36 y305.length co36] (0, 0) _ rfl (by (with_reducible repeat (first | refine qae ?_ _ | refine qai ?_ | refine qad ?_ _)); refine qaE (cs := #[.slice Ao38 y281.length co38, .slice Ao37 y284.length co37, .slice none 0 0]) ?_ 2 _ rfl; (with_reducible repeat (first | refine qae ?_ _ | refine qai ?_ | refine qad ?_ _)); refine qaE (cs := #[.slice Ao38 y281.length co38, .slice none 0 0, .slice none 0 0]) ?_ 1 _ rfl; (with_reducible repeat (first | refine qae ?_ _ | refine qai ?_ | refine qad ?_ _)); refine qaE (cs := #[.slice none 0 0, .slice none 0 0, .slice none 0 0]) ?_ 0 _ rfl; (with_reducible repeat (first | refine qae ?_ _ | refine qai ?_ | refine qad ?_ _)); exact qbQ.out) Try.underlying47 rfl (by kernel_rfl)) rfl ?_
 exact ⟨_, _, _, by first | rfl | (simp [qaC, qaB] <;> rfl) | (simp [*, qaC, qaB] <;> rfl), by (with_reducible repeat (first | apply Kd.N_alloc | apply Kd.N_drewN | apply Kd.N_drew)); exact Kd.N_mono (Kd.N_far (p := ⟨qbL, 2, none⟩) (Kd.N_far (p := ⟨qbL, 1, none⟩) (Kd.N_far (p := ⟨qbL, 0, none⟩) (Kd.N_mono qc0.out (fun k_ hk => (⟨hk, hk.1.1.1.1.1.1.1.1.2⟩ : _ ∧ k_ ≠ qbL))) (fun _ hk => hk.2) (.slice Ao38 y281.length co38)) (fun _ hk => hk.2) (.slice Ao37 y284.length co37)) (fun _ hk => hk.2) (.slice Ao36 y305.length co36)) (fun _ hk => ⟨hk.1.1.1.1.1.1.1.1.1.1, ⟨hk.1.1.1.1.1.1.1.1.2, hk.1.2⟩⟩), by (with_reducible repeat (first | apply Kd.R_alloc | apply Kd.R_drewN | apply Kd.R_drew)); exact Kd.R_mono (Kd.R_far (p := ⟨qbL, 2, none⟩) (Kd.R_far (p := ⟨qbL, 1, none⟩) (Kd.R_far (p := ⟨qbL, 0, none⟩) (Kd.R_types qdr.out qbQ.out (by decide)) (fun _ hk => hk.2) (.slice Ao38 y281.length co38)) (fun _ hk => hk.2) (.slice Ao37 y284.length co37)) (fun _ hk => hk.2) (.slice Ao36 y305.length co36)) (fun _ hk => hk.1.1.1.1.1.1), by (with_reducible repeat (first | apply Kd.N_alloc | apply Kd.N_drewN | apply Kd.N_drew)); exact Kd.N_mono (Kd.N_far (p := ⟨qbL, 2, none⟩) (Kd.N_far (p := ⟨qbL, 1, none⟩) (Kd.N_far (p := ⟨qbL, 0, none⟩) (Kd.N_mono qrX.out (fun k_ hk => (⟨hk, hk.2.2.2⟩ : _ ∧ k_ ≠ qbL))) (fun _ hk => hk.2) (.slice Ao38 y281.length co38)) (fun _ hk => hk.2) (.slice Ao37 y284.length co37)) (fun _ hk => hk.2) (.slice Ao36 y305.length co36)) (fun _ hk => ⟨hk.1.1, ⟨hk.1.2.1, hk.1.2.2.1⟩⟩), by repeat (first | (with_reducible first | exact HB.out | apply qac | apply qab | apply qag | refine qah ?_ qcP.out) | exact HB.out)⟩
end Go.Proofs.Ytmhomdohhihlcaa.P
namespace Go.Proofs.Ytmhomdohhihlcaa.P
open Go.RowKit Go.Proofs.YtmhomdohhihlcaaW.PrintWords Go.Proofs.YtmhomdohhihlcaaW.PrintLast Go.Proofs.YtmhomdohhihlcaaW.PrintMore
attribute [local go_sem] qbT qbR qb7 qb6 qbH qbG qbS qbU
def qe9.f  : Option ((List (S68))) := (qaS.f 2 2).bind fun ql0 => ((qaS.f 3 4).bind fun qiT => ((qaS.f 4 6).bind fun qhm => (some (([(⟨30, (⟨ql0.1, ql0.2⟩ : S25)⟩ : S68), (⟨20, (⟨qiT.1, qiT.2⟩ : S25)⟩ : S68), (⟨10, (⟨qhm.1, qhm.2⟩ : S25)⟩ : S68)] : List (S68))))))
set_option maxHeartbeats 8000000 in
set_option maxRecDepth 100000 in
theorem qe9.calls  (r : List (S68)) (w : World) (h : qe9.f  = some r) :
  Calls Try.prog 59 #[] w fun e w' => ∃ v0_ : Value, e = .returned (v0_) ∧ Kd.R k68 68 w' w.heap.size (fun _ => True) v0_ r ∧ Below w.heap.size w w' := by
 have hu68 := Try.underlying68
 have HB := qaa.mk (Below.refl w.heap.size w)
 have H : ((qaS.f 2 2).bind fun ql0 => ((qaS.f 3 4).bind fun qiT => ((qaS.f 4 6).bind fun qhm => (some (([(⟨30, (⟨ql0.1, ql0.2⟩ : S25)⟩ : S68), (⟨20, (⟨qiT.1, qiT.2⟩ : S25)⟩ : S68), (⟨10, (⟨qhm.1, qhm.2⟩ : S25)⟩ : S68)] : List (S68))))))) = some r := h
 clear h
 replace H := Option.bind_eq_some_iff.mp H
 obtain ⟨⟨t308, t309⟩, A10, H⟩ := H
 replace H : ((qaS.f 3 4).bind fun qiT => ((qaS.f 4 6).bind fun qhm => (some (([(⟨30, (⟨t308, t309⟩ : S25)⟩ : S68), (⟨20, (⟨qiT.1, qiT.2⟩ : S25)⟩ : S68), (⟨10, (⟨qhm.1, qhm.2⟩ : S25)⟩ : S68)] : List (S68)))))) = some r := H
 have A1 := qaa.mk A10
 clear A10
 replace H := Option.bind_eq_some_iff.mp H
 obtain ⟨⟨t310, t311⟩, A20, H⟩ := H
 replace H : ((qaS.f 4 6).bind fun qhm => (some (([(⟨30, (⟨t308, t309⟩ : S25)⟩ : S68), (⟨20, (⟨t310, t311⟩ : S25)⟩ : S68), (⟨10, (⟨qhm.1, qhm.2⟩ : S25)⟩ : S68)] : List (S68))))) = some r := H
 have A2 := qaa.mk A20
 clear A20
 replace H := Option.bind_eq_some_iff.mp H
 obtain ⟨⟨t312, t313⟩, A30, H⟩ := H
 replace H : (some (([(⟨30, (⟨t308, t309⟩ : S25)⟩ : S68), (⟨20, (⟨t310, t311⟩ : S25)⟩ : S68), (⟨10, (⟨t312, t313⟩ : S25)⟩ : S68)] : List (S68)))) = some r := H
 have A3 := qaa.mk A30
 clear A30
 obtain ⟨y314, ql1⟩ : ∃ y_ : List (S68), y_ = (([(⟨30, (⟨t308, t309⟩ : S25)⟩ : S68), (⟨20, (⟨t310, t311⟩ : S25)⟩ : S68), (⟨10, (⟨t312, t313⟩ : S25)⟩ : S68)] : List (S68))) := ⟨_, rfl⟩
 replace H : (some y314) = some r := by first | (rw [ql1]; with_reducible exact H) | (have H2_ := (Option.bind_some _ _).symm.trans H; rw [ql1]; with_reducible exact H2_) | (have H2_ := (Option.bind_some _ _).symm.trans H; with_reducible exact H2_) | with_reducible exact H | (rw [ql1]; exact H) | exact H
 have qrY := qaa.mk ql1
 clear ql1
 obtain rfl := Option.some.inj H
 go_enter Try.func59, Try.ntmps59
 go_wp2_with (first | ((with_reducible refine qaz (f := 43) rfl ?_); refine qbd (some 1) rfl rfl Try.func43 (by kernel_rfl) rfl #[.int .i64 2, .int .i64 2] rfl (by (try simp only [List.map_toArray, List.map_cons, List.map_nil]); first | done | rfl | (simp only [List.length_drop, List.length_take]; rfl)) ?_; (with_reducible refine (qaS.calls 2 2 t308 t309 _ A1.out).mono ?_); rintro e w4 ⟨rfl, hb⟩; refine ⟨_, rfl, ?_⟩; have n0_ := qaa.mk (qap (by repeat (first | (with_reducible first | exact HB.out | apply qac | apply qab | apply qag) | exact HB.out)) hb); clear HB; have HB := n0_; clear n0_; (try clear hb); (try clear hb2); (try clear hk); (try clear hi)) | ((with_reducible refine qaz (f := 43) rfl ?_); refine qbd (some 3) rfl rfl Try.func43 (by kernel_rfl) rfl #[.int .i64 3, .int .i64 4] rfl (by (try simp only [List.map_toArray, List.map_cons, List.map_nil]); first | done | rfl | (simp only [List.length_drop, List.length_take]; rfl)) ?_; (with_reducible refine (qaS.calls 3 4 t310 t311 _ A2.out).mono ?_); rintro e w5 ⟨rfl, hb⟩; refine ⟨_, rfl, ?_⟩; have n0_ := qaa.mk (qap (by repeat (first | (with_reducible first | exact HB.out | apply qac | apply qab | apply qag) | exact HB.out)) hb); clear HB; have HB := n0_; clear n0_; (try clear hb); (try clear hb2); (try clear hk); (try clear hi)) | ((with_reducible refine qaz (f := 43) rfl ?_); refine qbd (some 5) rfl rfl Try.func43 (by kernel_rfl) rfl #[.int .i64 4, .int .i64 6] rfl (by (try simp only [List.map_toArray, List.map_cons, List.map_nil]); first | done | rfl | (simp only [List.length_drop, List.length_take]; rfl)) ?_; (with_reducible refine (qaS.calls 4 6 t312 t313 _ A3.out).mono ?_); rintro e w6 ⟨rfl, hb⟩; refine ⟨_, rfl, ?_⟩; have n0_ := qaa.mk (qap (by repeat (first | (with_reducible first | exact HB.out | apply qac | apply qab | apply qag) | exact HB.out)) hb); clear HB; have HB := n0_; clear n0_; (try clear hb); (try clear hb2); (try clear hk); (try clear hi)) | ((with_reducible refine qaN (N := 7) rfl ?_); refine Kd.R_lit k68 _ 68 ?hg (N := 7) ?hd (xs := ([(⟨30, (⟨t308, t309⟩ : S25)⟩ : S68), (⟨20, (⟨t310, t311⟩ : S25)⟩ : S68), (⟨10, (⟨t312, t313⟩ : S25)⟩ : S68)] : List (S68))) (inner := [.int .i64 30, .int .i64 t308, .int .i64 t309, .int .i64 20, .int .i64 t310, .int .i64 t311, .int .i64 10, .int .i64 t312, .int .i64 t313]) (ok := fun _ => True) (okp := fun _ => True) ?hr ?hp (fun _ hk => hk) trivial (Below.refl _ _) (Nat.le_refl _) (by simp) ?_; (case hd => rfl); (case hg => rfl); (case hr => first | (go_simp; done) | (go_simp; rfl)); (case hp => exact (Reps.c3 (show Kd.M k68 _ _ _ (⟨30, (⟨t308, t309⟩ : S25)⟩ : S68) [.int .i64 30, .int .i64 t308, .int .i64 t309] from (qmq _ _ _ (⟨30, (⟨t308, t309⟩ : S25)⟩ : S68) )) (Reps.c3 (show Kd.M k68 _ _ _ (⟨20, (⟨t310, t311⟩ : S25)⟩ : S68) [.int .i64 20, .int .i64 t310, .int .i64 t311] from (qmq _ _ _ (⟨20, (⟨t310, t311⟩ : S25)⟩ : S68) )) (Reps.c3 (show Kd.M k68 _ _ _ (⟨10, (⟨t312, t313⟩ : S25)⟩ : S68) [.int .i64 10, .int .i64 t312, .int .i64 t313] from (qmq _ _ _ (⟨10, (⟨t312, t313⟩ : S25)⟩ : S68) )) (Reps.none _ _))))); intro v315 w7 ho8 hb hg_ hnew_; clear hg_ hnew_; (first | rw [← qrY.out] at ho8 | (simp only [Int.reduceToNat] at ho8; rw [← qrY.out] at ho8)); have n0_ := qaa.mk (Kd.R_lower ho8 (qal (by repeat (first | (with_reducible first | exact HB.out | apply qac | apply qab | apply qag) | exact HB.out)))); have n1_ := qaa.mk (qap (by repeat (first | (with_reducible first | exact HB.out | apply qac | apply qab | apply qag) | exact HB.out)) hb); clear HB; have qvV := n0_; have HB := n1_; clear n0_ n1_; clear hb ho8))
 go_ret
 exact ⟨_, by first | rfl | (simp [qaC, qaB] <;> rfl) | (simp [*, qaC, qaB] <;> rfl), by (with_reducible repeat (first | apply Kd.R_alloc | apply Kd.R_drewN | apply Kd.R_drew)); exact qvV.out, by repeat (first | (with_reducible first | exact HB.out | apply qac | apply qab | apply qag) | exact HB.out)⟩
end Go.Proofs.Ytmhomdohhihlcaa.P
namespace Go.Proofs.Ytmhomdohhihlcaa.P
open Go.RowKit Go.Proofs.YtmhomdohhihlcaaW.PrintWords Go.Proofs.YtmhomdohhihlcaaW.PrintLast Go.Proofs.YtmhomdohhihlcaaW.PrintMore
attribute [local go_sem] qbT qbR qb7 qb6 qbH qbG qbS qbU
def qfz.f  : Option ((List (S25))) := (qaS.f 45 50).bind fun ql2 => ((qaS.f 50 55).bind fun qiU => (some (([(⟨ql2.1, ql2.2⟩ : S25), (⟨qiU.1, qiU.2⟩ : S25)] : List (S25)))))
set_option maxHeartbeats 8000000 in
set_option maxRecDepth 100000 in
theorem qfz.calls  (r : List (S25)) (w : World) (h : qfz.f  = some r) :
  Calls Try.prog 60 #[] w fun e w' => ∃ v0_ : Value, e = .returned (v0_) ∧ Kd.R k25 25 w' w.heap.size (fun _ => True) v0_ r ∧ Below w.heap.size w w' := by
 have HB := qaa.mk (Below.refl w.heap.size w)
 have H : ((qaS.f 45 50).bind fun ql2 => ((qaS.f 50 55).bind fun qiU => (some (([(⟨ql2.1, ql2.2⟩ : S25), (⟨qiU.1, qiU.2⟩ : S25)] : List (S25)))))) = some r := h
 clear h
 replace H := Option.bind_eq_some_iff.mp H
 obtain ⟨⟨t317, t318⟩, A10, H⟩ := H
 replace H : ((qaS.f 50 55).bind fun qiU => (some (([(⟨t317, t318⟩ : S25), (⟨qiU.1, qiU.2⟩ : S25)] : List (S25))))) = some r := H
 have A1 := qaa.mk A10
 clear A10
 replace H := Option.bind_eq_some_iff.mp H
 obtain ⟨⟨t319, t320⟩, A20, H⟩ := H
 replace H : (some (([(⟨t317, t318⟩ : S25), (⟨t319, t320⟩ : S25)] : List (S25)))) = some r := H
 have A2 := qaa.mk A20
 clear A20
 obtain ⟨y321, ql3⟩ : ∃ y_ : List (S25), y_ = (([(⟨t317, t318⟩ : S25), (⟨t319, t320⟩ : S25)] : List (S25))) := ⟨_, rfl⟩
 replace H : (some y321) = some r := by first | (rw [ql3]; with_reducible exact H) | (have H2_ := (Option.bind_some _ _).symm.trans H; rw [ql3]; with_reducible exact H2_) | (have H2_ := (Option.bind_some _ _).symm.trans H; with_reducible exact H2_) | with_reducible exact H | (rw [ql3]; exact H) | exact H
 have qrZ := qaa.mk ql3
 clear ql3
 obtain rfl := Option.some.inj H
 go_enter Try.func60, Try.ntmps60
 go_wp2_with (first | ((with_reducible refine qaz (f := 43) rfl ?_); refine qbd (some 1) rfl rfl Try.func43 (by kernel_rfl) rfl #[.int .i64 45, .int .i64 50] rfl (by (try simp only [List.map_toArray, List.map_cons, List.map_nil]); first | done | rfl | (simp only [List.length_drop, List.length_take]; rfl)) ?_; (with_reducible refine (qaS.calls 45 50 t317 t318 _ A1.out).mono ?_); rintro e w3 ⟨rfl, hb⟩; refine ⟨_, rfl, ?_⟩; have n0_ := qaa.mk (qap (by repeat (first | (with_reducible first | exact HB.out | apply qac | apply qab | apply qag) | exact HB.out)) hb); clear HB; have HB := n0_; clear n0_; (try clear hb); (try clear hb2); (try clear hk); (try clear hi)) | ((with_reducible refine qaz (f := 43) rfl ?_); refine qbd (some 2) rfl rfl Try.func43 (by kernel_rfl) rfl #[.int .i64 50, .int .i64 55] rfl (by (try simp only [List.map_toArray, List.map_cons, List.map_nil]); first | done | rfl | (simp only [List.length_drop, List.length_take]; rfl)) ?_; (with_reducible refine (qaS.calls 50 55 t319 t320 _ A2.out).mono ?_); rintro e w4 ⟨rfl, hb⟩; refine ⟨_, rfl, ?_⟩; have n0_ := qaa.mk (qap (by repeat (first | (with_reducible first | exact HB.out | apply qac | apply qab | apply qag) | exact HB.out)) hb); clear HB; have HB := n0_; clear n0_; (try clear hb); (try clear hb2); (try clear hk); (try clear hi)) | ((with_reducible refine qaN (N := 3) rfl ?_); refine Kd.R_lit k25 _ 25 ?hg (N := 3) ?hd (xs := ([(⟨t317, t318⟩ : S25), (⟨t319, t320⟩ : S25)] : List (S25))) (inner := [.int .i64 t317, .int .i64 t318, .int .i64 t319, .int .i64 t320]) (ok := fun _ => True) (okp := fun _ => True) ?hr ?hp (fun _ hk => hk) trivial (Below.refl _ _) (Nat.le_refl _) (by simp) ?_; (case hd => rfl); (case hg => rfl); (case hr => first | (go_simp; done) | (go_simp; rfl)); (case hp => exact (Reps.c2 (show Kd.M k25 _ _ _ (⟨t317, t318⟩ : S25) [.int .i64 t317, .int .i64 t318] from (qgr _ _ _ (⟨t317, t318⟩ : S25) )) (Reps.c2 (show Kd.M k25 _ _ _ (⟨t319, t320⟩ : S25) [.int .i64 t319, .int .i64 t320] from (qgr _ _ _ (⟨t319, t320⟩ : S25) )) (Reps.none _ _)))); intro v322 w5 ho6 hb hg_ hnew_; clear hg_ hnew_; (first | rw [← qrZ.out] at ho6 | (simp only [Int.reduceToNat] at ho6; rw [← qrZ.out] at ho6)); have n0_ := qaa.mk (Kd.R_lower ho6 (qal (by repeat (first | (with_reducible first | exact HB.out | apply qac | apply qab | apply qag) | exact HB.out)))); have n1_ := qaa.mk (qap (by repeat (first | (with_reducible first | exact HB.out | apply qac | apply qab | apply qag) | exact HB.out)) hb); clear HB; have qvW := n0_; have HB := n1_; clear n0_ n1_; clear hb ho6))
 go_ret
 exact ⟨_, by first | rfl | (simp [qaC, qaB] <;> rfl) | (simp [*, qaC, qaB] <;> rfl), by (with_reducible repeat (first | apply Kd.R_alloc | apply Kd.R_drewN | apply Kd.R_drew)); exact qvW.out, by repeat (first | (with_reducible first | exact HB.out | apply qac | apply qab | apply qag) | exact HB.out)⟩
end Go.Proofs.Ytmhomdohhihlcaa.P
namespace Go.Proofs.Ytmhomdohhihlcaa.P
open Go.RowKit Go.Proofs.YtmhomdohhihlcaaW.PrintWords Go.Proofs.YtmhomdohhihlcaaW.PrintLast Go.Proofs.YtmhomdohhihlcaaW.PrintMore
attribute [local go_sem] qbT qbR qb7 qb6 qbH qbG qbS qbU
def qfq.f  : Option ((List (List (S25)))) := (qaS.f 60 70).bind fun ql4 => ((qaS.f 30 40).bind fun qiV => ((qaS.f 20 30).bind fun qf9 => ((qaS.f 70 80).bind fun qfx => (some (([(([(⟨ql4.1, ql4.2⟩ : S25), (⟨qiV.1, qiV.2⟩ : S25)] : List (S25))), (([(⟨qf9.1, qf9.2⟩ : S25), (⟨qfx.1, qfx.2⟩ : S25)] : List (S25)))] : List (List (S25))))))))
set_option maxHeartbeats 8000000 in
set_option maxRecDepth 100000 in
theorem qfq.calls  (r : List (List (S25))) (w : World) (h : qfq.f  = some r) :
  Calls Try.prog 61 #[] w fun e w' => ∃ v0_ : Value, e = .returned (v0_) ∧ Kd.N (Kd.slice 25 k25) 32 w' w.heap.size (fun k_ => (w.heap.size ≤ k_)) v0_ r ∧ Below w.heap.size w w' := by
 have HB := qaa.mk (Below.refl w.heap.size w)
 have H : ((qaS.f 60 70).bind fun ql4 => ((qaS.f 30 40).bind fun qiV => ((qaS.f 20 30).bind fun qf9 => ((qaS.f 70 80).bind fun qfx => (some (([(([(⟨ql4.1, ql4.2⟩ : S25), (⟨qiV.1, qiV.2⟩ : S25)] : List (S25))), (([(⟨qf9.1, qf9.2⟩ : S25), (⟨qfx.1, qfx.2⟩ : S25)] : List (S25)))] : List (List (S25))))))))) = some r := h
 clear h
 replace H := Option.bind_eq_some_iff.mp H
 obtain ⟨⟨t324, t325⟩, A10, H⟩ := H
 replace H : ((qaS.f 30 40).bind fun qiV => ((qaS.f 20 30).bind fun qf9 => ((qaS.f 70 80).bind fun qfx => (some (([(([(⟨t324, t325⟩ : S25), (⟨qiV.1, qiV.2⟩ : S25)] : List (S25))), (([(⟨qf9.1, qf9.2⟩ : S25), (⟨qfx.1, qfx.2⟩ : S25)] : List (S25)))] : List (List (S25)))))))) = some r := H
 have A1 := qaa.mk A10
 clear A10
 replace H := Option.bind_eq_some_iff.mp H
 obtain ⟨⟨t326, t327⟩, A20, H⟩ := H
 replace H : ((qaS.f 20 30).bind fun qf9 => ((qaS.f 70 80).bind fun qfx => (some (([(([(⟨t324, t325⟩ : S25), (⟨t326, t327⟩ : S25)] : List (S25))), (([(⟨qf9.1, qf9.2⟩ : S25), (⟨qfx.1, qfx.2⟩ : S25)] : List (S25)))] : List (List (S25))))))) = some r := H
 have A2 := qaa.mk A20
 clear A20
 obtain ⟨y328, ql5⟩ : ∃ y_ : List (S25), y_ = (([(⟨t324, t325⟩ : S25), (⟨t326, t327⟩ : S25)] : List (S25))) := ⟨_, rfl⟩
 replace H : ((qaS.f 20 30).bind fun qf9 => ((qaS.f 70 80).bind fun qfx => (some (([y328, (([(⟨qf9.1, qf9.2⟩ : S25), (⟨qfx.1, qfx.2⟩ : S25)] : List (S25)))] : List (List (S25))))))) = some r := by first | (rw [ql5]; with_reducible exact H) | (have H2_ := (Option.bind_some _ _).symm.trans H; rw [ql5]; with_reducible exact H2_) | (have H2_ := (Option.bind_some _ _).symm.trans H; with_reducible exact H2_) | with_reducible exact H | (rw [ql5]; exact H) | exact H
 have qr0 := qaa.mk ql5
 clear ql5
 replace H := Option.bind_eq_some_iff.mp H
 obtain ⟨⟨t331, t332⟩, A30, H⟩ := H
 replace H : ((qaS.f 70 80).bind fun qfx => (some (([y328, (([(⟨t331, t332⟩ : S25), (⟨qfx.1, qfx.2⟩ : S25)] : List (S25)))] : List (List (S25)))))) = some r := H
 have A3 := qaa.mk A30
 clear A30
 replace H := Option.bind_eq_some_iff.mp H
 obtain ⟨⟨t333, t334⟩, A40, H⟩ := H
 replace H : (some (([y328, (([(⟨t331, t332⟩ : S25), (⟨t333, t334⟩ : S25)] : List (S25)))] : List (List (S25))))) = some r := H
 have A4 := qaa.mk A40
 clear A40
 obtain ⟨y335, ql6⟩ : ∃ y_ : List (S25), y_ = (([(⟨t331, t332⟩ : S25), (⟨t333, t334⟩ : S25)] : List (S25))) := ⟨_, rfl⟩
 replace H : (some (([y328, y335] : List (List (S25))))) = some r := by first | (rw [ql6]; with_reducible exact H) | (have H2_ := (Option.bind_some _ _).symm.trans H; rw [ql6]; with_reducible exact H2_) | (have H2_ := (Option.bind_some _ _).symm.trans H; with_reducible exact H2_) | with_reducible exact H | (rw [ql6]; exact H) | exact H
 have qr1 := qaa.mk ql6
 clear ql6
 obtain ⟨y338, ql7⟩ : ∃ y_ : List (List (S25)), y_ = (([y328, y335] : List (List (S25)))) := ⟨_, rfl⟩
 replace H : (some y338) = some r := by first | (rw [ql7]; with_reducible exact H) | (have H2_ := (Option.bind_some _ _).symm.trans H; rw [ql7]; with_reducible exact H2_) | (have H2_ := (Option.bind_some _ _).symm.trans H; with_reducible exact H2_) | with_reducible exact H | (rw [ql7]; exact H) | exact H
 have qr2 := qaa.mk ql7
 clear ql7
 obtain rfl := Option.some.inj H
 go_enter Try.func61, Try.ntmps61
 go_wp2_with (first | ((with_reducible refine qaz (f := 43) rfl ?_); refine qbd (some 1) rfl rfl Try.func43 (by kernel_rfl) rfl #[.int .i64 60, .int .i64 70] rfl (by (try simp only [List.map_toArray, List.map_cons, List.map_nil]); first | done | rfl | (simp only [List.length_drop, List.length_take]; rfl)) ?_; (with_reducible refine (qaS.calls 60 70 t324 t325 _ A1.out).mono ?_); rintro e w5 ⟨rfl, hb⟩; refine ⟨_, rfl, ?_⟩; have n0_ := qaa.mk (qap (by repeat (first | (with_reducible first | exact HB.out | apply qac | apply qab | apply qag) | exact HB.out)) hb); clear HB; have HB := n0_; clear n0_; (try clear hb); (try clear hb2); (try clear hk); (try clear hi)) | ((with_reducible refine qaz (f := 43) rfl ?_); refine qbd (some 2) rfl rfl Try.func43 (by kernel_rfl) rfl #[.int .i64 30, .int .i64 40] rfl (by (try simp only [List.map_toArray, List.map_cons, List.map_nil]); first | done | rfl | (simp only [List.length_drop, List.length_take]; rfl)) ?_; (with_reducible refine (qaS.calls 30 40 t326 t327 _ A2.out).mono ?_); rintro e w6 ⟨rfl, hb⟩; refine ⟨_, rfl, ?_⟩; have n0_ := qaa.mk (qap (by repeat (first | (with_reducible first | exact HB.out | apply qac | apply qab | apply qag) | exact HB.out)) hb); clear HB; have HB := n0_; clear n0_; (try clear hb); (try clear hb2); (try clear hk); (try clear hi)) | ((with_reducible refine qaN (N := 3) rfl ?_); refine Kd.R_lit k25 _ 25 ?hg (N := 3) ?hd (xs := ([(⟨t324, t325⟩ : S25), (⟨t326, t327⟩ : S25)] : List (S25))) (inner := [.int .i64 t324, .int .i64 t325, .int .i64 t326, .int .i64 t327]) (ok := fun _ => True) (okp := fun _ => True) ?hr ?hp (fun _ hk => hk) trivial (Below.refl _ _) (Nat.le_refl _) (by simp) ?_; (case hd => rfl); (case hg => rfl); (case hr => first | (go_simp; done) | (go_simp; rfl)); (case hp => exact (Reps.c2 (show Kd.M k25 _ _ _ (⟨t324, t325⟩ : S25) [.int .i64 t324, .int .i64 t325] from (qgr _ _ _ (⟨t324, t325⟩ : S25) )) (Reps.c2 (show Kd.M k25 _ _ _ (⟨t326, t327⟩ : S25) [.int .i64 t326, .int .i64 t327] from (qgr _ _ _ (⟨t326, t327⟩ : S25) )) (Reps.none _ _)))); intro v329 w7 ho8 hb hg_ hnew_; clear hg_ hnew_; (first | rw [← qr0.out] at ho8 | (simp only [Int.reduceToNat] at ho8; rw [← qr0.out] at ho8)); have n0_ := qaa.mk (Kd.R_lower (Kd.R_newM (M := fun k_ => (w.heap.size ≤ k_)) ho8 (qal (by repeat (first | (with_reducible first | exact HB.out | apply qac | apply qab | apply qag) | exact HB.out))) (fun k_ h_ => h_)) (qal (by repeat (first | (with_reducible first | exact HB.out | apply qac | apply qab | apply qag) | exact HB.out)))); have n1_ := qaa.mk (qap (by repeat (first | (with_reducible first | exact HB.out | apply qac | apply qab | apply qag) | exact HB.out)) hb); clear HB; have qga := n0_; have HB := n1_; clear n0_ n1_; clear hb ho8) | ((with_reducible refine qaz (f := 43) rfl ?_); refine qbd (some 4) rfl rfl Try.func43 (by kernel_rfl) rfl #[.int .i64 20, .int .i64 30] rfl (by (try simp only [List.map_toArray, List.map_cons, List.map_nil]); first | done | rfl | (simp only [List.length_drop, List.length_take]; rfl)) ?_; (with_reducible refine (qaS.calls 20 30 t331 t332 _ A3.out).mono ?_); rintro e w9 ⟨rfl, hb⟩; refine ⟨_, rfl, ?_⟩; have n0_ := qaa.mk (Kd.R_below (by (with_reducible repeat (first | apply Kd.R_alloc | apply Kd.R_drewN | apply Kd.R_drew)); exact qga.out) hb); have n1_ := qaa.mk (qap (by repeat (first | (with_reducible first | exact HB.out | apply qac | apply qab | apply qag) | exact HB.out)) hb); clear qga; clear HB; have qga := n0_; have HB := n1_; clear n0_ n1_; (try clear hb); (try clear hb2); (try clear hk); (try clear hi)) | ((with_reducible refine qaz (f := 43) rfl ?_); refine qbd (some 5) rfl rfl Try.func43 (by kernel_rfl) rfl #[.int .i64 70, .int .i64 80] rfl (by (try simp only [List.map_toArray, List.map_cons, List.map_nil]); first | done | rfl | (simp only [List.length_drop, List.length_take]; rfl)) ?_; (with_reducible refine (qaS.calls 70 80 t333 t334 _ A4.out).mono ?_); rintro e w10 ⟨rfl, hb⟩; refine ⟨_, rfl, ?_⟩; have n0_ := qaa.mk (Kd.R_below (by (with_reducible repeat (first | apply Kd.R_alloc | apply Kd.R_drewN | apply Kd.R_drew)); exact qga.out) hb); have n1_ := qaa.mk (qap (by repeat (first | (with_reducible first | exact HB.out | apply qac | apply qab | apply qag) | exact HB.out)) hb); clear qga; clear HB; have qga := n0_; have HB := n1_; clear n0_ n1_; (try clear hb); (try clear hb2); (try clear hk); (try clear hi)) | ((with_reducible refine qaN (N := 6) rfl ?_); refine Kd.R_lit k25 _ 25 ?hg (N := 6) ?hd (xs := ([(⟨t331, t332⟩ : S25), (⟨t333, t334⟩ : S25)] : List (S25))) (inner := [.int .i64 t331, .int .i64 t332, .int .i64 t333, .int .i64 t334]) (ok := fun _ => True) (okp := fun _ => True) ?hr ?hp (fun _ hk => hk) trivial (Below.refl _ _) (Nat.le_refl _) (by simp) ?_; (case hd => rfl); (case hg => rfl); (case hr => first | (go_simp; done) | (go_simp; rfl)); (case hp => exact (Reps.c2 (show Kd.M k25 _ _ _ (⟨t331, t332⟩ : S25) [.int .i64 t331, .int .i64 t332] from (qgr _ _ _ (⟨t331, t332⟩ : S25) )) (Reps.c2 (show Kd.M k25 _ _ _ (⟨t333, t334⟩ : S25) [.int .i64 t333, .int .i64 t334] from (qgr _ _ _ (⟨t333, t334⟩ : S25) )) (Reps.none _ _)))); intro v336 w11 ho12 hb hg_ hnew_; clear hg_ hnew_; (first | rw [← qr1.out] at ho12 | (simp only [Int.reduceToNat] at ho12; rw [← qr1.out] at ho12)); have n0_ := qaa.mk (Kd.R_elder' (by (with_reducible repeat (first | apply Kd.R_alloc | apply Kd.R_drewN | apply Kd.R_drew)); exact qga.out) (Kd.R_base ho12) hb); have n1_ := qaa.mk (Kd.R_lower (Kd.R_new' (Kd.R_newM (M := fun k_ => (w.heap.size ≤ k_)) ho12 (qal (by repeat (first | (with_reducible first | exact HB.out | apply qac | apply qab | apply qag) | exact HB.out))) (fun k_ h_ => h_)) (Kd.R_lt (by (with_reducible repeat (first | apply Kd.R_alloc | apply Kd.R_drewN | apply Kd.R_drew)); exact qga.out))) (qal (by repeat (first | (with_reducible first | exact HB.out | apply qac | apply qab | apply qag) | exact HB.out)))); have n2_ := qaa.mk (qap (by repeat (first | (with_reducible first | exact HB.out | apply qac | apply qab | apply qag) | exact HB.out)) hb); clear qga; clear HB; have qga := n0_; have qnv := n1_; have HB := n2_; clear n0_ n1_ n2_; clear hb ho12; obtain ⟨Ao13, co13, eo13⟩ := Kd.R_slice qga.out; subst eo13; obtain ⟨Ao14, co14, eo14⟩ := Kd.R_slice qnv.out; subst eo14) | ((with_reducible refine qaN (N := 7) rfl ?_); refine Kd.N_lit (Kd.slice 25 k25) _ 32 ?hg (N' := 7) ?hd (xs := ([y328, y335] : List (List (S25)))) (inner := [.slice Ao13 y328.length co13, .slice Ao14 y335.length co14]) (ok := (fun k_ => (w.heap.size ≤ k_))) (okp := (fun k_ => (w.heap.size ≤ k_))) ?hr ?hp (fun _ hk => hk) ((show ∀ k_, w11.heap.size ≤ k_ → (fun k_ => (w.heap.size ≤ k_)) k_ from fun k_ hk => (Nat.le_trans (qal (by repeat (first | (with_reducible first | exact HB.out | apply qac | apply qab | apply qag) | exact HB.out))) hk)) _ (Nat.le_refl _)) (Below.refl _ _) (Nat.le_refl _) (by simp) ?_; (case hd => rfl); (case hg => rfl); (case hr => first | (go_simp; done) | (go_simp; rfl)); (case hp => exact (Reps.one (show Kd.FK (Kd.slice 25 k25) _ _ y328 [.slice Ao13 y328.length co13] from (Kd.FK_slice_mk (Kd.R_reads' (Kd.R_mono (ok' := (fun k_ => (w.heap.size ≤ k_))) (qga.out) (fun k_ hk => hk.1.1))).2.1 (Kd.R_F (Kd.R_mono (ok' := (fun k_ => (w.heap.size ≤ k_))) (qga.out) (fun k_ hk => hk.1.1))))) (Reps.one (show Kd.FK (Kd.slice 25 k25) _ _ y335 [.slice Ao14 y335.length co14] from (Kd.FK_slice_mk (Kd.R_reads' (Kd.R_mono (ok' := (fun k_ => (w.heap.size ≤ k_))) (qnv.out) (fun k_ hk => hk.1.1))).2.1 (Kd.R_F (Kd.R_mono (ok' := (fun k_ => (w.heap.size ≤ k_))) (qnv.out) (fun k_ hk => hk.1.1))))) (Reps.none _ _)))); intro v339 w15 ho16 hb hg_ hnew_; clear hg_ hnew_; (first | rw [← qr2.out] at ho16 | (simp only [Int.reduceToNat] at ho16; rw [← qr2.out] at ho16)); have n0_ := qaa.mk (Kd.N_lower ho16 (qal (by repeat (first | (with_reducible first | exact HB.out | apply qac | apply qab | apply qag) | exact HB.out)))); have n1_ := qaa.mk (qap (by repeat (first | (with_reducible first | exact HB.out | apply qac | apply qab | apply qag) | exact HB.out)) hb); clear HB; clear qga; clear qnv; have qvX := n0_; have HB := n1_; clear n0_ n1_; clear hb ho16))
 go_ret
 exact ⟨_, by first | rfl | (simp [qaC, qaB] <;> rfl) | (simp [*, qaC, qaB] <;> rfl), by (with_reducible repeat (first | apply Kd.N_alloc | apply Kd.N_drewN | apply Kd.N_drew)); exact qvX.out, by repeat (first | (with_reducible first | exact HB.out | apply qac | apply qab | apply qag) | exact HB.out)⟩
end Go.Proofs.Ytmhomdohhihlcaa.P
namespace Go.Proofs.Ytmhomdohhihlcaa.P
open Go.RowKit Go.Proofs.YtmhomdohhihlcaaW.PrintWords Go.Proofs.YtmhomdohhihlcaaW.PrintLast Go.Proofs.YtmhomdohhihlcaaW.PrintMore
attribute [local go_sem] qbT qbR qb7 qb6 qbH qbG qbS qbU
def qfK.f  : Option ((List (S136))) := some (([(⟨50, 8⟩ : S136), (⟨30, 5⟩ : S136), (⟨20, 1⟩ : S136), (⟨10, 4⟩ : S136)] : List (S136)))
set_option maxHeartbeats 8000000 in
set_option maxRecDepth 100000 in
theorem qfK.calls  (r : List (S136)) (w : World) (h : qfK.f  = some r) :
  Calls Try.prog 62 #[] w fun e w' => ∃ v0_ : Value, e = .returned (v0_) ∧ Kd.R k136 136 w' w.heap.size (fun _ => True) v0_ r ∧ Below w.heap.size w w' := by
 have qpU := Try.underlying136
 have HB := qaa.mk (Below.refl w.heap.size w)
 have H : (some (([(⟨50, 8⟩ : S136), (⟨30, 5⟩ : S136), (⟨20, 1⟩ : S136), (⟨10, 4⟩ : S136)] : List (S136)))) = some r := h
 clear h
 obtain ⟨y341, ql8⟩ : ∃ y_ : List (S136), y_ = (([(⟨50, 8⟩ : S136), (⟨30, 5⟩ : S136), (⟨20, 1⟩ : S136), (⟨10, 4⟩ : S136)] : List (S136))) := ⟨_, rfl⟩
 replace H : (some y341) = some r := by first | (rw [ql8]; with_reducible exact H) | (have H2_ := (Option.bind_some _ _).symm.trans H; rw [ql8]; with_reducible exact H2_) | (have H2_ := (Option.bind_some _ _).symm.trans H; with_reducible exact H2_) | with_reducible exact H | (rw [ql8]; exact H) | exact H
 have qr3 := qaa.mk ql8
 clear ql8
 obtain rfl := Option.some.inj H
 go_enter Try.func62, Try.ntmps62
 go_wp2_with (first | ((with_reducible refine qaN (N := 5) rfl ?_); refine Kd.R_lit k136 _ 136 ?hg (N := 5) ?hd (xs := ([(⟨50, 8⟩ : S136), (⟨30, 5⟩ : S136), (⟨20, 1⟩ : S136), (⟨10, 4⟩ : S136)] : List (S136))) (inner := [.int .i64 50, .int .i64 8, .int .i64 30, .int .i64 5, .int .i64 20, .int .i64 1, .int .i64 10, .int .i64 4]) (ok := fun _ => True) (okp := fun _ => True) ?hr ?hp (fun _ hk => hk) trivial (Below.refl _ _) (Nat.le_refl _) (by simp) ?_; (case hd => rfl); (case hg => rfl); (case hr => first | (go_simp; done) | (go_simp; rfl)); (case hp => exact (Reps.c2 (show Kd.M k136 _ _ _ (⟨50, 8⟩ : S136) [.int .i64 50, .int .i64 8] from (qjT _ _ _ (⟨50, 8⟩ : S136) )) (Reps.c2 (show Kd.M k136 _ _ _ (⟨30, 5⟩ : S136) [.int .i64 30, .int .i64 5] from (qjT _ _ _ (⟨30, 5⟩ : S136) )) (Reps.c2 (show Kd.M k136 _ _ _ (⟨20, 1⟩ : S136) [.int .i64 20, .int .i64 1] from (qjT _ _ _ (⟨20, 1⟩ : S136) )) (Reps.c2 (show Kd.M k136 _ _ _ (⟨10, 4⟩ : S136) [.int .i64 10, .int .i64 4] from (qjT _ _ _ (⟨10, 4⟩ : S136) )) (Reps.none _ _)))))); intro v342 w1 ho2 hb hg_ hnew_; clear hg_ hnew_; (first | rw [← qr3.out] at ho2 | (simp only [Int.reduceToNat] at ho2; rw [← qr3.out] at ho2)); have n0_ := qaa.mk (Kd.R_lower ho2 (qal (by repeat (first | (with_reducible first | exact HB.out | apply qac | apply qab | apply qag) | exact HB.out)))); have n1_ := qaa.mk (qap (by repeat (first | (with_reducible first | exact HB.out | apply qac | apply qab | apply qag) | exact HB.out)) hb); clear HB; have qvY := n0_; have HB := n1_; clear n0_ n1_; clear hb ho2))
 go_ret
 exact ⟨_, by first | rfl | (simp [qaC, qaB] <;> rfl) | (simp [*, qaC, qaB] <;> rfl), by (with_reducible repeat (first | apply Kd.R_alloc | apply Kd.R_drewN | apply Kd.R_drew)); exact qvY.out, by repeat (first | (with_reducible first | exact HB.out | apply qac | apply qab | apply qag) | exact HB.out)⟩
end Go.Proofs.Ytmhomdohhihlcaa.P
namespace Go.Proofs.Ytmhomdohhihlcaa.P
open Go.RowKit Go.Proofs.YtmhomdohhihlcaaW.PrintWords Go.Proofs.YtmhomdohhihlcaaW.PrintLast Go.Proofs.YtmhomdohhihlcaaW.PrintMore
attribute [local go_sem] qbT qbR qb7 qb6 qbH qbG qbS qbU
def qfp.f  : Option ((List (List Int))) := some (([(([0, 1] : List Int)), (([1, 2] : List Int)), (([2, 3] : List Int))] : List (List Int)))
set_option maxHeartbeats 8000000 in
set_option maxRecDepth 100000 in
theorem qfp.calls  (r : List (List Int)) (w : World) (h : qfp.f  = some r) :
  Calls Try.prog 63 #[] w fun e w' => ∃ v0_ : Value, e = .returned (v0_) ∧ Kd.N (Kd.slice 3 (Kd.int .i64)) 37 w' w.heap.size (fun k_ => (w.heap.size ≤ k_)) v0_ r ∧ Below w.heap.size w w' := by
 have HB := qaa.mk (Below.refl w.heap.size w)
 have H : (some (([(([0, 1] : List Int)), (([1, 2] : List Int)), (([2, 3] : List Int))] : List (List Int)))) = some r := h
 clear h
 obtain ⟨y344, ql9⟩ : ∃ y_ : List Int, y_ = (([0, 1] : List Int)) := ⟨_, rfl⟩
 replace H : (some (([y344, (([1, 2] : List Int)), (([2, 3] : List Int))] : List (List Int)))) = some r := by first | (rw [ql9]; with_reducible exact H) | (have H2_ := (Option.bind_some _ _).symm.trans H; rw [ql9]; with_reducible exact H2_) | (have H2_ := (Option.bind_some _ _).symm.trans H; with_reducible exact H2_) | with_reducible exact H | (rw [ql9]; exact H) | exact H
 have qr4 := qaa.mk ql9
 clear ql9
 obtain ⟨y347, qma⟩ : ∃ y_ : List Int, y_ = (([1, 2] : List Int)) := ⟨_, rfl⟩
 replace H : (some (([y344, y347, (([2, 3] : List Int))] : List (List Int)))) = some r := by first | (rw [qma]; with_reducible exact H) | (have H2_ := (Option.bind_some _ _).symm.trans H; rw [qma]; with_reducible exact H2_) | (have H2_ := (Option.bind_some _ _).symm.trans H; with_reducible exact H2_) | with_reducible exact H | (rw [qma]; exact H) | exact H
 have qr5 := qaa.mk qma
 clear qma
 obtain ⟨y350, qmb⟩ : ∃ y_ : List Int, y_ = (([2, 3] : List Int)) := ⟨_, rfl⟩
 replace H : (some (([y344, y347, y350] : List (List Int)))) = some r := by first | (rw [qmb]; with_reducible exact H) | (have H2_ := (Option.bind_some _ _).symm.trans H; rw [qmb]; with_reducible exact H2_) | (have H2_ := (Option.bind_some _ _).symm.trans H; with_reducible exact H2_) | with_reducible exact H | (rw [qmb]; exact H) | exact H
 have qr6 := qaa.mk qmb
 clear qmb
 obtain ⟨y353, qmc⟩ : ∃ y_ : List (List Int), y_ = (([y344, y347, y350] : List (List Int))) := ⟨_, rfl⟩
 replace H : (some y353) = some r := by first | (rw [qmc]; with_reducible exact H) | (have H2_ := (Option.bind_some _ _).symm.trans H; rw [qmc]; with_reducible exact H2_) | (have H2_ := (Option.bind_some _ _).symm.trans H; with_reducible exact H2_) | with_reducible exact H | (rw [qmc]; exact H) | exact H
 have qr7 := qaa.mk qmc
 clear qmc
 obtain rfl := Option.some.inj H
 go_enter Try.func63, Try.ntmps63
 go_wp2_with (first | ((with_reducible refine qaN (N := 1) rfl ?_); refine Kd.R_lit (Kd.int .i64) _ 3 ?hg (N := 1) ?hd (xs := ([0, 1] : List Int)) (inner := [.int .i64 0, .int .i64 1]) (ok := fun _ => True) (okp := fun _ => True) ?hr ?hp (fun _ hk => hk) trivial (Below.refl _ _) (Nat.le_refl _) (by simp) ?_; (case hd => rfl); (case hg => rfl); (case hr => first | (go_simp; done) | (go_simp; rfl)); (case hp => exact (Reps.one (show Kd.M (Kd.int .i64) _ _ _ 0 [.int .i64 0] from rfl) (Reps.one (show Kd.M (Kd.int .i64) _ _ _ 1 [.int .i64 1] from rfl) (Reps.none _ _)))); intro v345 w1 ho2 hb hg_ hnew_; clear hg_ hnew_; (first | rw [← qr4.out] at ho2 | (simp only [Int.reduceToNat] at ho2; rw [← qr4.out] at ho2)); have n0_ := qaa.mk (Kd.R_lower (Kd.R_newM (M := fun k_ => (w.heap.size ≤ k_)) ho2 (qal (by repeat (first | (with_reducible first | exact HB.out | apply qac | apply qab | apply qag) | exact HB.out))) (fun k_ h_ => h_)) (qal (by repeat (first | (with_reducible first | exact HB.out | apply qac | apply qab | apply qag) | exact HB.out)))); have n1_ := qaa.mk (qap (by repeat (first | (with_reducible first | exact HB.out | apply qac | apply qab | apply qag) | exact HB.out)) hb); clear HB; have qgO := n0_; have HB := n1_; clear n0_ n1_; clear hb ho2) | ((with_reducible refine qaN (N := 2) rfl ?_); refine Kd.R_lit (Kd.int .i64) _ 3 ?hg (N := 2) ?hd (xs := ([1, 2] : List Int)) (inner := [.int .i64 1, .int .i64 2]) (ok := fun _ => True) (okp := fun _ => True) ?hr ?hp (fun _ hk => hk) trivial (Below.refl _ _) (Nat.le_refl _) (by simp) ?_; (case hd => rfl); (case hg => rfl); (case hr => first | (go_simp; done) | (go_simp; rfl)); (case hp => exact (Reps.one (show Kd.M (Kd.int .i64) _ _ _ 1 [.int .i64 1] from rfl) (Reps.one (show Kd.M (Kd.int .i64) _ _ _ 2 [.int .i64 2] from rfl) (Reps.none _ _)))); intro v348 w3 ho4 hb hg_ hnew_; clear hg_ hnew_; (first | rw [← qr5.out] at ho4 | (simp only [Int.reduceToNat] at ho4; rw [← qr5.out] at ho4)); have n0_ := qaa.mk (Kd.R_elder' (by (with_reducible repeat (first | apply Kd.R_alloc | apply Kd.R_drewN | apply Kd.R_drew)); exact qgO.out) (Kd.R_base ho4) hb); have n1_ := qaa.mk (Kd.R_lower (Kd.R_new' (Kd.R_newM (M := fun k_ => (w.heap.size ≤ k_)) ho4 (qal (by repeat (first | (with_reducible first | exact HB.out | apply qac | apply qab | apply qag) | exact HB.out))) (fun k_ h_ => h_)) (Kd.R_lt (by (with_reducible repeat (first | apply Kd.R_alloc | apply Kd.R_drewN | apply Kd.R_drew)); exact qgO.out))) (qal (by repeat (first | (with_reducible first | exact HB.out | apply qac | apply qab | apply qag) | exact HB.out)))); have n2_ := qaa.mk (qap (by repeat (first | (with_reducible first | exact HB.out | apply qac | apply qab | apply qag) | exact HB.out)) hb); clear qgO; clear HB; have qgO := n0_; have qiW := n1_; have HB := n2_; clear n0_ n1_ n2_; clear hb ho4) | ((with_reducible refine qaN (N := 3) rfl ?_); refine Kd.R_lit (Kd.int .i64) _ 3 ?hg (N := 3) ?hd (xs := ([2, 3] : List Int)) (inner := [.int .i64 2, .int .i64 3]) (ok := fun _ => True) (okp := fun _ => True) ?hr ?hp (fun _ hk => hk) trivial (Below.refl _ _) (Nat.le_refl _) (by simp) ?_; (case hd => rfl); (case hg => rfl); (case hr => first | (go_simp; done) | (go_simp; rfl)); (case hp => exact (Reps.one (show Kd.M (Kd.int .i64) _ _ _ 2 [.int .i64 2] from rfl) (Reps.one (show Kd.M (Kd.int .i64) _ _ _ 3 [.int .i64 3] from rfl) (Reps.none _ _)))); intro v351 w5 ho6 hb hg_ hnew_; clear hg_ hnew_; (first | rw [← qr6.out] at ho6 | (simp only [Int.reduceToNat] at ho6; rw [← qr6.out] at ho6)); have n0_ := qaa.mk (Kd.R_elder' (by (with_reducible repeat (first | apply Kd.R_alloc | apply Kd.R_drewN | apply Kd.R_drew)); exact qgO.out) (Kd.R_base ho6) hb); have n1_ := qaa.mk (Kd.R_elder' (by (with_reducible repeat (first | apply Kd.R_alloc | apply Kd.R_drewN | apply Kd.R_drew)); exact qiW.out) (Kd.R_base ho6) hb); have n2_ := qaa.mk (Kd.R_lower (Kd.R_new' (Kd.R_new' (Kd.R_newM (M := fun k_ => (w.heap.size ≤ k_)) ho6 (qal (by repeat (first | (with_reducible first | exact HB.out | apply qac | apply qab | apply qag) | exact HB.out))) (fun k_ h_ => h_)) (Kd.R_lt (by (with_reducible repeat (first | apply Kd.R_alloc | apply Kd.R_drewN | apply Kd.R_drew)); exact qgO.out))) (Kd.R_lt (by (with_reducible repeat (first | apply Kd.R_alloc | apply Kd.R_drewN | apply Kd.R_drew)); exact qiW.out))) (qal (by repeat (first | (with_reducible first | exact HB.out | apply qac | apply qab | apply qag) | exact HB.out)))); have n3_ := qaa.mk (qap (by repeat (first | (with_reducible first | exact HB.out | apply qac | apply qab | apply qag) | exact HB.out)) hb); clear qgO; clear qiW; clear HB; have qgO := n0_; have qiW := n1_; have qnw := n2_; have HB := n3_; clear n0_ n1_ n2_ n3_; clear hb ho6; obtain ⟨Ao7, co7, eo7⟩ := Kd.R_slice qgO.out; subst eo7; obtain ⟨Ao8, co8, eo8⟩ := Kd.R_slice qiW.out; subst eo8; obtain ⟨Ao9, co9, eo9⟩ := Kd.R_slice qnw.out; subst eo9) | ((with_reducible refine qaN (N := 4) rfl ?_); refine Kd.N_lit (Kd.slice 3 (Kd.int .i64)) _ 37 ?hg (N' := 4) ?hd (xs := ([y344, y347, y350] : List (List Int))) (inner := [.slice Ao7 y344.length co7, .slice Ao8 y347.length co8, .slice Ao9 y350.length co9]) (ok := (fun k_ => (w.heap.size ≤ k_))) (okp := (fun k_ => (w.heap.size ≤ k_))) ?hr ?hp (fun _ hk => hk) ((show ∀ k_, w5.heap.size ≤ k_ → (fun k_ => (w.heap.size ≤ k_)) k_ from fun k_ hk => (Nat.le_trans (qal (by repeat (first | (with_reducible first | exact HB.out | apply qac | apply qab | apply qag) | exact HB.out))) hk)) _ (Nat.le_refl _)) (Below.refl _ _) (Nat.le_refl _) (by simp) ?_; (case hd => rfl); (case hg => rfl); (case hr => first | (go_simp; done) | (go_simp; rfl)); (case hp => exact (Reps.one (show Kd.FK (Kd.slice 3 (Kd.int .i64)) _ _ y344 [.slice Ao7 y344.length co7] from (Kd.FK_slice_mk (Kd.R_reads' (Kd.R_mono (ok' := (fun k_ => (w.heap.size ≤ k_))) (qgO.out) (fun k_ hk => hk.1.1.1))).2.1 (Kd.R_F (Kd.R_mono (ok' := (fun k_ => (w.heap.size ≤ k_))) (qgO.out) (fun k_ hk => hk.1.1.1))))) (Reps.one (show Kd.FK (Kd.slice 3 (Kd.int .i64)) _ _ y347 [.slice Ao8 y347.length co8] from (Kd.FK_slice_mk (Kd.R_reads' (Kd.R_mono (ok' := (fun k_ => (w.heap.size ≤ k_))) (qiW.out) (fun k_ hk => hk.1.1.1))).2.1 (Kd.R_F (Kd.R_mono (ok' := (fun k_ => (w.heap.size ≤ k_))) (qiW.out) (fun k_ hk => hk.1.1.1))))) (Reps.one (show Kd.FK (Kd.slice 3 (Kd.int .i64)) _ _ y350 [.slice Ao9 y350.length co9] from (Kd.FK_slice_mk (Kd.R_reads' (Kd.R_mono (ok' := (fun k_ => (w.heap.size ≤ k_))) (qnw.out) (fun k_ hk => hk.1.1.1))).2.1 (Kd.R_F (Kd.R_mono (ok' := (fun k_ => (w.heap.size ≤ k_))) (qnw.out) (fun k_ hk => hk.1.1.1))))) (Reps.none _ _))))); intro v354 w10 ho11 hb hg_ hnew_; clear hg_ hnew_; (first | rw [← qr7.out] at ho11 | (simp only [Int.reduceToNat] at ho11; rw [← qr7.out] at ho11)); have n0_ := qaa.mk (Kd.N_lower ho11 (qal (by repeat (first | (with_reducible first | exact HB.out | apply qac | apply qab | apply qag) | exact HB.out)))); have n1_ := qaa.mk (qap (by repeat (first | (with_reducible first | exact HB.out | apply qac | apply qab | apply qag) | exact HB.out)) hb); clear HB; clear qgO; clear qiW; clear qnw; have qvZ := n0_; have HB := n1_; clear n0_ n1_; clear hb ho11))
 go_ret
 exact ⟨_, by first | rfl | (simp [qaC, qaB] <;> rfl) | (simp [*, qaC, qaB] <;> rfl), by (with_reducible repeat (first | apply Kd.N_alloc | apply Kd.N_drewN | apply Kd.N_drew)); exact qvZ.out, by repeat (first | (with_reducible first | exact HB.out | apply qac | apply qab | apply qag) | exact HB.out)⟩
end Go.Proofs.Ytmhomdohhihlcaa.P
namespace Go.Proofs.Ytmhomdohhihlcaa.P
open Go.RowKit Go.Proofs.YtmhomdohhihlcaaW.PrintWords Go.Proofs.YtmhomdohhihlcaaW.PrintLast Go.Proofs.YtmhomdohhihlcaaW.PrintMore
set_option maxRecDepth 100000
def qkY : List S68 := [⟨30, ⟨2, 2⟩⟩, ⟨20, ⟨3, 4⟩⟩, ⟨10, ⟨4, 6⟩⟩]
def qmf : List (List S25) := [[⟨60, 70⟩, ⟨30, 40⟩], [⟨20, 30⟩, ⟨70, 80⟩]]
def qny : List S25 := [⟨45, 50⟩, ⟨50, 55⟩]
def qj5 : S39 := ⟨[100, 50, 20], [800, 700, 500], [0, 1, 2], 60, 1⟩
def qka : S39 := ⟨[60, 60], [500, 500], [1, 1], 50, 0⟩
def qpC : List S136 := [⟨50, 8⟩, ⟨30, 5⟩, ⟨20, 1⟩, ⟨10, 4⟩]
def qmn : List (List Int) := [[0, 1], [1, 2], [2, 3]]
def qhX : List (List (List Int)) := [[[90, 80], [10, 10]], [[0, 0], [0, 0]]]
theorem qqd : qe9.f = some qkY := by kernel_rfl
theorem qrb : qfq.f = some qmf := by kernel_rfl
theorem qsu : qfz.f = some qny := by kernel_rfl
theorem qqq : qdy.f = some ([100, 50, 20], [800, 700, 500], [0, 1, 2], 60, 1) := by kernel_rfl
theorem qlc : qd3.f = some ([qj5, qka], [40, 80], qhX) := by kernel_rfl
theorem qus : qfK.f = some qpC := by kernel_rfl
theorem qrd : qfp.f = some qmn := by kernel_rfl
theorem qsw : qaY.f 40 qkY 4 6 = some (10, 30, 0) := by kernel_rfl
theorem qsj : qaw.f 20 [100, 50, 20] [800, 700, 500] [0, 1, 2] 60 1 [30, 30] [90, 80] = some ([40, 78], 0) := by kernel_rfl
theorem qra : qcK.f 40 [qj5, qka] [40, 80] qhX = some (7, 0) := by kernel_rfl
theorem qq2 : qbY.f 40 [qj5, qka] [40, 80] qhX 8 = some (1, 1, 1, 0) := by kernel_rfl
theorem qqV : qbj.f 10 [40, 78] [40, 78] = some true := by kernel_rfl
theorem qq9 : qbj.f 10 [0, 2] [0, 2] = some true := by kernel_rfl
theorem qnH : qce.f 10 [⟨38, 75⟩, ⟨25, 62⟩] [⟨38, 75⟩, ⟨25, 62⟩] = some true := by kernel_rfl
theorem qq6 : qaJ.f qpC qmn 2 = some ([0, 2], 110, 18, 0) := by kernel_rfl
theorem qp6 : qay.f 20 qmf qny = some ([⟨38, 75⟩, ⟨25, 62⟩], 0) := by kernel_rfl
end Go.Proofs.Ytmhomdohhihlcaa.P
namespace Go.Proofs.Ytmhomdohhihlcaa.P
open Go.RowKit Go.Proofs.YtmhomdohhihlcaaW.PrintWords Go.Proofs.YtmhomdohhihlcaaW.PrintLast Go.Proofs.YtmhomdohhihlcaaW.PrintMore
attribute [local go_sem high] qpG
def qcW.f : Option Bool := some true
structure qqp (p : Prop) : Prop where
 out : p
theorem V_C {α : Type} {d : Kd α} {e : Nat} {w : World} {b : Nat} {ok : Nat → Prop} {v : Value} {xs : List α} (h : Kd.V d e w b ok v xs) : ∃ A c, v = .slice A xs.length c ∧ xs.length ≤ c ∧ Kd.C d w A xs.length xs := by
 obtain ⟨A, c, hv, hl, hf⟩ := h
 exact ⟨A, c, hv, hl, Kd.F_now hf⟩
theorem qnG {W : World} {o : Obj} {k : Nat} (h : W.heap.size = k) : (W.alloc o).heap[k]? = some o := by subst h; exact World.alloc_heap_new W o
theorem qnh {W : World} {g : Nat} {a b : Int} (h : W.heap[g]? = some (.cells #[.int .i64 a, .int .i64 b] 3 (0, 0))) : Kd.C (Kd.int .i64) W (some ⟨g, 0, none⟩) 2 [a, b] := by
 refine ⟨rfl, by decide, fun _ => ⟨_, rfl, fun j p hj => ⟨[.int .i64 p], rfl, rfl, fun i u hu => ?_⟩⟩⟩
 have hj2 : j < 2 := (List.getElem?_eq_some_iff.1 hj).1
 have hi : i = 0 := by have := (List.getElem?_eq_some_iff.1 hu).1; simpa using this
 subst hi
 have hu2 : Value.int .i64 p = u := by simpa using hu
 rw [qey, qaf h]
 subst hu2
 match j, hj2, hj with
 | 0, _, hj => cases hj; rfl
 | 1, _, hj => cases hj; rfl
theorem qsi {W : World} {g : Nat} {a b a' b' : Int} (h : W.heap[g]? = some (.cells #[.int .i64 a, .int .i64 b, .int .i64 a', .int .i64 b'] 25 (0, 0))) : Kd.C k25 W (some ⟨g, 0, none⟩) 2 [⟨a, b⟩, ⟨a', b'⟩] := by
 refine ⟨rfl, by decide, fun _ => ⟨_, rfl, fun j p hj => ⟨[.int .i64 p.f0, .int .i64 p.f1], rfl, quq _ _, fun i u hu => ?_⟩⟩⟩
 have hj2 : j < 2 := (List.getElem?_eq_some_iff.1 hj).1
 have hi : i < 2 := (List.getElem?_eq_some_iff.1 hu).1
 rw [qey, qaf h]
 match j, hj2, hj, i, hi, hu with
 | 0, _, hj, 0, _, hu => cases hj; cases hu; rfl
 | 0, _, hj, 1, _, hu => cases hj; cases hu; rfl
 | 1, _, hj, 0, _, hu => cases hj; cases hu; rfl
 | 1, _, hj, 1, _, hu => cases hj; cases hu; rfl
set_option maxHeartbeats 8000000 in
set_option maxRecDepth 100000 in
theorem qcW.calls (r : Bool) (w : World) (h : qcW.f = some r) :
  Calls Try.prog 21 #[] w fun e w' => e = .returned (.bool r) ∧ Below w.heap.size w w' := by
 obtain rfl : true = r := Option.some.inj h
 clear h
 have hu25 := Try.underlying25
 go_enter Try.func21, Try.ntmps21
 have B0 := Below.refl w.heap.size w
 go_wp2_with (first
  | (go_at_call 59; refine (qe9.calls _ _ qqd).mono ?_; rintro e w1 ⟨v, rfl, hv, hb1⟩; obtain ⟨A1, c1, rfl, hc1, hC1⟩ := Kd.R_reads hv; have B1 := B0.trans (hb1.mono B0.size); clear hv hb1)
  | (go_at_call 19; refine (qaY.calls 40 A1 c1 qkY 4 6 10 30 0 _ hC1 hc1 qsw).mono ?_; rintro e w2 ⟨rfl, hb2⟩; have B2 := B1.trans (hb2.mono B1.size); clear hC1 hc1 hb2)
  | (go_at_call 61; refine (qfq.calls _ _ qrb).mono ?_; rintro e w3 ⟨v, rfl, hv, hb3⟩; obtain ⟨A3, c3, rfl, hc3, hC3⟩ := Kd.N_reads hv; have B3 := (qac B2 _).trans (hb3.mono (qac B2 _).size); have K3 := qam (World.alloc_heap_new w2 _) hb3; clear hv)
  | (go_at_call 60; refine (qfz.calls _ _ qsu).mono ?_; rintro e w4 ⟨v, rfl, hv, hb4⟩; obtain ⟨A4, c4, rfl, hc4, hC4⟩ := Kd.R_reads hv; have B4 := B3.trans (hb4.mono B3.size); have hC3' := Kd.C_below hC3 hb4; have K4 := qam K3 hb4; clear hv)
  | (go_at_call 22; refine (qay.calls 20 A3 c3 qmf A4 c4 qny [⟨38, 75⟩, ⟨25, 62⟩] 0 _ hC3' hc3 hC4 hc4 qp6).mono ?_; rintro e w5 ⟨v, rfl, hv, hb5⟩; obtain ⟨A5, c5, rfl, hc5, hC5⟩ := V_C hv; have B5 := B4.trans (hb5.mono B4.size); have K5 := qam K4 hb5; clear K3 K4 hC3 hC3' hC4 hc3 hc4 hv hb3 hb4 hb5)
  | (go_at_call 57; refine (qdy.calls _ _ _ _ _ _ qqq).mono ?_; rintro e w6 ⟨u0, u1, u2, rfl, h0, h1, h2, hb6⟩; obtain ⟨A60, c60, rfl, hc60, hC60⟩ := Kd.R_reads h0; obtain ⟨A61, c61, rfl, hc61, hC61⟩ := Kd.R_reads h1; obtain ⟨A62, c62, rfl, hc62, hC62⟩ := Kd.R_reads h2; have B6 := B5.trans (hb6.mono B5.size); have K6 := qam K5 hb6; have hC56 := Kd.C_below hC5 hb6; clear K5 h0 h1 h2 hC5 hb6)
  | (go_at_call 25; refine (qaw.calls 20 A60 c60 [100, 50, 20] A61 c61 [800, 700, 500] A62 c62 [0, 1, 2] 60 1 _ 2 [30, 30] _ 2 [90, 80] [40, 78] 0 _ ?q1 hc60 ?q2 hc61 ?q3 hc62 ?q4 (Nat.le_refl 2) ?q5 (Nat.le_refl 2) qsj).mono ?_; (case q1 => exact Kd.C_alloc (Kd.C_alloc hC60 _) _); (case q2 => exact Kd.C_alloc (Kd.C_alloc hC61 _) _); (case q3 => exact Kd.C_alloc (Kd.C_alloc hC62 _) _); (case q4 => exact qnh (qad (World.alloc_heap_new w6 _) _)); (case q5 => refine qnh ?_; (have := World.alloc_heap_new (w6.alloc (.cells #[.int .i64 30, .int .i64 30] 3)) (.cells #[.int .i64 90, .int .i64 80] 3)); rwa [World.size_alloc] at this); rintro e w7 ⟨v, rfl, hv, hb7⟩; obtain ⟨A7, c7, rfl, hc7, hC7⟩ := V_C hv; have B7 := (qac (qac B6 _) _).trans (hb7.mono (qac (qac B6 _) _).size); have K7 := qam (qad (qad K6 _) _) hb7; have hC57 := Kd.C_below (Kd.C_alloc (Kd.C_alloc hC56 _) _) hb7; clear hC60 hC61 hC62 hc60 hc61 hc62 hC56 K6 hv hb7)
  | (go_at_call 58; refine (qd3.calls _ _ _ _ qlc).mono ?_; rintro e w8 ⟨u0, u1, u2, rfl, h0, h1, h2, hb8⟩; obtain ⟨A80, c80, rfl, hc80, hC80⟩ := Kd.N_reads h0; obtain ⟨A81, c81, rfl, hc81, hC81⟩ := Kd.R_reads h1; obtain ⟨A82, c82, rfl, hc82, hC82⟩ := Kd.N_reads h2; have B8 := B7.trans (hb8.mono B7.size); have K8 := qam K7 hb8; have hC58 := Kd.C_below hC57 hb8; have hC78 := Kd.C_below hC7 hb8; clear h0 h1 h2 hC57 hC7 K7 hb8)
  | (go_at_call 28; refine (qcK.calls 40 A80 c80 [qj5, qka] A81 c81 [40, 80] A82 c82 qhX 7 0 _ hC80 hc80 hC81 hc81 hC82 hc82 qra).mono ?_; rintro e w9 ⟨rfl, hb9⟩; have B9 := B8.trans (hb9.mono B8.size); have K9 := qam K8 hb9; have hC59 := Kd.C_below hC58 hb9; have hC79 := Kd.C_below hC78 hb9; clear hC80 hC81 hC82 hc80 hc81 hc82 hC58 hC78 K8 hb9))
 have hSb : ∀ z : World, Below w9.heap.size w9 z → z.cell? ⟨w2.heap.size, 0, none⟩ = some (.int .i64 10) ∧ z.cell? ⟨w2.heap.size, 1, none⟩ = some (.int .i64 30) ∧ Below w9.heap.size w9 z := fun z hz =>
  ⟨(qaf (qam K9 hz) 0).trans rfl, (qaf (qam K9 hz) 1).trans rfl, hz⟩
 have HSb := qaa.mk hSb
 have H59 := qaa.mk hC59
 have H79 := qaa.mk hC79
 have HB9 := qaa.mk B9
 clear hSb hC59 hC79 B0 B1 B2 B3 B4 B5 B6 B7 B8 B9 K9
 go_region_held3 (fun z => z.cell? ⟨w2.heap.size, 0, none⟩ = some (.int .i64 10) ∧ z.cell? ⟨w2.heap.size, 1, none⟩ = some (.int .i64 30) ∧ Below w9.heap.size w9 z)
  (first | exact HSb.out _ (qbx (Below.refl _ _)) | (refine HSb.out _ (qac ?hk _); (case hk => exact (And.right (And.right ‹_ ∧ _ ∧ Below w9.heap.size w9 _›)))) | (refine HSb.out _ (qab ?hk _); (case hk => exact (And.right (And.right ‹_ ∧ _ ∧ Below w9.heap.size w9 _›)))) | (refine HSb.out _ (Below.trans ?hk1 (hbz.mono ?hk2)); (case hk1 => exact (And.right (And.right ‹_ ∧ _ ∧ Below w9.heap.size w9 _›))); (case hk2 => exact (And.right (And.right ‹_ ∧ _ ∧ Below w9.heap.size w9 _›)).size)))
  (first
   | (go_at_call 43; refine (qaS.calls _ _ _ _ _ rfl).mono ?_; rintro e wz ⟨rfl, hbz⟩)
   | (go_at_call 24; refine (qce.calls 10 A5 c5 [⟨38, 75⟩, ⟨25, 62⟩] _ 2 [⟨38, 75⟩, ⟨25, 62⟩] true _ ?q1 hc5 ?q2 (Nat.le_refl 2) qnH).mono ?_; (case q1 => refine Kd.C_below H59.out ?hk; (case hk => exact (And.right (And.right ‹_ ∧ _ ∧ Below w9.heap.size w9 _›)))); (case q2 => refine qsi ?_; exact World.alloc_heap_new _ _); rintro e wz ⟨rfl, ⟨nd, rfl⟩⟩)
   | (go_at_call 27; refine (qbj.calls 10 A7 c7 [40, 78] _ 2 [40, 78] true _ ?q1 hc7 ?q2 (Nat.le_refl 2) qqV).mono ?_; (case q1 => refine Kd.C_below H79.out ?hk; (case hk => exact (And.right (And.right ‹_ ∧ _ ∧ Below w9.heap.size w9 _›)))); (case q2 => refine qnh (qnG ?hs); (case hs => first | rfl | exact World.size_alloc _ _)); rintro e wz ⟨rfl, ⟨nd, rfl⟩⟩))
 go_wp2_with (go_at_call 58; refine qqp.out ?_)
 refine qqp.mk ?_
 refine (qd3.calls _ _ _ _ qlc).mono ?_
 rintro e wa ⟨u0, u1, u2, rfl, h0, h1, h2, hba⟩
 have Ba : Below w.heap.size w wa := by
  refine Below.trans ?_ (hba.mono ?_)
  ·
   exact HB9.out.trans ((And.right (And.right ‹_ ∧ _ ∧ Below w9.heap.size w9 _›)).mono HB9.out.size)
  ·
   exact (HB9.out.trans ((And.right (And.right ‹_ ∧ _ ∧ Below w9.heap.size w9 _›)).mono HB9.out.size)).size
 obtain ⟨A80, c80, rfl, hc80, hC80⟩ := Kd.N_reads h0
 obtain ⟨A81, c81, rfl, hc81, hC81⟩ := Kd.R_reads h1
 obtain ⟨A82, c82, rfl, hc82, hC82⟩ := Kd.N_reads h2
 clear h0 h1 h2 hba
 go_wp2_with (first
  | (go_at_call 32; refine (qbY.calls 40 A80 c80 [qj5, qka] A81 c81 [40, 80] A82 c82 qhX 8 1 1 1 0 _ hC80 hc80 hC81 hc81 hC82 hc82 qq2).mono ?_; rintro e wb ⟨rfl, hbb⟩; have Bb := Ba.trans (hbb.mono Ba.size); clear hC80 hC81 hC82 hc80 hc81 hc82 hbb)
  | (go_at_call 62; refine (qfK.calls _ _ qus).mono ?_; rintro e wc ⟨v, rfl, hv, hbc⟩; obtain ⟨Ac, cc, rfl, hcc, hCc⟩ := Kd.R_reads hv; have Bc := Bb.trans (hbc.mono Bb.size); clear hv hbc)
  | (go_at_call 63; refine (qfp.calls _ _ qrd).mono ?_; rintro e wd ⟨v, rfl, hv, hbd⟩; obtain ⟨Ad, cd, rfl, hcd, hCd⟩ := Kd.N_reads hv; have Bd := Bc.trans (hbd.mono Bc.size); have hCc' := Kd.C_below hCc hbd; clear hv hbd hCc)
  | (go_at_call 40; refine (qaJ.calls Ac cc qpC Ad cd qmn 2 [0, 2] 110 18 0 _ hCc' hcc hCd hcd qq6).mono ?_; rintro e we ⟨v, rfl, hv, hbe⟩; obtain ⟨Ae, ce, rfl, hce, hCe⟩ := V_C hv; have Be := Bd.trans (hbe.mono Bd.size); clear hv hbe hCc' hCd hcc hcd)
  | (go_at_call 27; refine (qbj.calls 10 Ae ce [0, 2] _ 2 [0, 2] true _ ?q1 hce ?q2 (Nat.le_refl 2) qq9).mono ?_; (case q1 => exact Kd.C_alloc hCe _); (case q2 => refine qnh (qnG ?hs); (case hs => rfl)); rintro e wf ⟨rfl, ⟨ndf, rfl⟩⟩))
 go_ret
 exact ⟨rfl, qab (qac Be _) _⟩
end Go.Proofs.Ytmhomdohhihlcaa.P
namespace Go.Proofs.Ytmhomdohhihlcaa.P
open Go.RowKit Go.Proofs.YtmhomdohhihlcaaW.PrintWords Go.Proofs.YtmhomdohhihlcaaW.PrintLast Go.Proofs.YtmhomdohhihlcaaW.PrintMore
attribute [local go_sem] qbT qbR qb7 qb6 qbH qbG qbS qbU
def qee.f (k : Nat) (l0_0 : List Int) (l0_1 : List Int) (l0_2 : List Int) (a0_3 : Int) (a0_4 : Int) (l1 : List Int) (l2 : List Int) : Option (Bool) := (qaw.f k l0_0 l0_1 l0_2 a0_3 a0_4 l1 l2).bind fun qmd => ((qdo.f k l0_0 l0_1 l0_2 a0_3 a0_4 l1 l2).bind fun qiX => ((qbj.f k qmd.1 qiX.1).bind fun t478 => (if t478 = true then (if qmd.2 = qiX.2 then ((qcW.f).bind fun t479 => (some t479)) else (some false)) else (some false))))
set_option maxHeartbeats 8000000 in
set_option maxRecDepth 100000 in
theorem qee.calls (k : Nat) (A0_0 : Option Addr) (c0_0 : Nat) (l0_0 : List Int) (A0_1 : Option Addr) (c0_1 : Nat) (l0_1 : List Int) (A0_2 : Option Addr) (c0_2 : Nat) (l0_2 : List Int) (a0_3 : Int) (a0_4 : Int) (A1 : Option Addr) (c1 : Nat) (l1 : List Int) (A2 : Option Addr) (c2 : Nat) (l2 : List Int) (r : Bool) (w : World) (qcQ : Kd.C (Kd.int .i64) w A0_0 l0_0.length l0_0) (qcV : l0_0.length ≤ c0_0) (qcH : Kd.C (Kd.int .i64) w A0_1 l0_1.length l0_1) (qcL : l0_1.length ≤ c0_1) (qcI : Kd.C (Kd.int .i64) w A0_2 l0_2.length l0_2) (qcM : l0_2.length ≤ c0_2) (hr1 : Kd.C (Kd.int .i64) w A1 l1.length l1) (hc1 : l1.length ≤ c1) (hr2 : Kd.C (Kd.int .i64) w A2 l2.length l2) (hc2 : l2.length ≤ c2) (h : qee.f k l0_0 l0_1 l0_2 a0_3 a0_4 l1 l2 = some r) :
  Calls Try.prog 5 #[.agg #[.slice A0_0 l0_0.length c0_0, .slice A0_1 l0_1.length c0_1, .slice A0_2 l0_2.length c0_2, .int .i64 a0_3, .int .i64 a0_4], .slice A1 l1.length c1, .slice A2 l2.length c2] w fun e w' => e = .returned (.bool r) ∧ Below w.heap.size w w' := by
 have hu39 := Try.underlying39
 have qb9 := qaa.mk qcQ
 have qcx := qaa.mk qcV
 clear qcQ qcV
 have qb2 := qaa.mk qcH
 have qcj := qaa.mk qcL
 clear qcH qcL
 have qb8 := qaa.mk qcI
 have qck := qaa.mk qcM
 clear qcI qcM
 have HR1 := qaa.mk hr1
 have HC1 := qaa.mk hc1
 clear hr1 hc1
 have HR2 := qaa.mk hr2
 have HC2 := qaa.mk hc2
 clear hr2 hc2
 have HB := qaa.mk (Below.refl w.heap.size w)
 have H : ((qaw.f k l0_0 l0_1 l0_2 a0_3 a0_4 l1 l2).bind fun qmd => ((qdo.f k l0_0 l0_1 l0_2 a0_3 a0_4 l1 l2).bind fun qiX => ((qbj.f k qmd.1 qiX.1).bind fun t478 => (if t478 = true then (if qmd.2 = qiX.2 then ((qcW.f).bind fun t479 => (some t479)) else (some false)) else (some false))))) = some r := h
 clear h
 replace H := Option.bind_eq_some_iff.mp H
 obtain ⟨⟨t470, t473⟩, A40, H⟩ := H
 replace H : ((qdo.f k l0_0 l0_1 l0_2 a0_3 a0_4 l1 l2).bind fun qiX => ((qbj.f k t470 qiX.1).bind fun t478 => (if t478 = true then (if t473 = qiX.2 then ((qcW.f).bind fun t479 => (some t479)) else (some false)) else (some false)))) = some r := H
 have A4 := qaa.mk A40
 clear A40
 replace H := Option.bind_eq_some_iff.mp H
 obtain ⟨⟨t474, t477⟩, A50, H⟩ := H
 replace H : ((qbj.f k t470 t474).bind fun t478 => (if t478 = true then (if t473 = t477 then ((qcW.f).bind fun t479 => (some t479)) else (some false)) else (some false))) = some r := H
 have A5 := qaa.mk A50
 clear A50
 replace H := Option.bind_eq_some_iff.mp H
 obtain ⟨t478, A60, H⟩ := H
 replace H : (if t478 = true then (if t473 = t477 then ((qcW.f).bind fun t479 => (some t479)) else (some false)) else (some false)) = some r := H
 have A6 := qaa.mk A60
 clear A60
 by_cases c7 : t478 = true
 ·
  subst c7
  have H1 : (if t473 = t477 then ((qcW.f).bind fun t479 => (some t479)) else (some false)) = some r := by rw [if_pos rfl] at H; exact H
  clear H
  have H := H1
  clear H1
  by_cases c8 : t473 = t477
  ·
   rw [if_pos c8] at H
   have c8b0 : (t473 == t477) = true := beq_iff_eq.mpr c8
   have c8b1 : (t473 != t477) = false := bne_eq_false_iff_eq.mpr c8
   clear c8
   replace H := Option.bind_eq_some_iff.mp H
   obtain ⟨t479, A90, H⟩ := H
   replace H : (some t479) = some r := H
   have A9 := qaa.mk A90
   clear A90
   obtain rfl := Option.some.inj H
   go_enter Try.func5, Try.ntmps5
   go_wp2_with (first | ((with_reducible refine qaN (N := 3) rfl ?_); refine qba ?hg (N := 3) ?hd (cs := #[.slice A0_0 l0_0.length c0_0, .slice A0_1 l0_1.length c0_1, .slice A0_2 l0_2.length c0_2, .int .i64 a0_3, .int .i64 a0_4]) (t := 39) ?hr ?_; (case hd => rfl); (case hg => rfl); (case hr => first | (go_simp; done) | (go_simp; rfl)); intro qch hg w10 hbox hb; have n0_ := qaa.mk (qap (by repeat (first | (with_reducible first | exact HB.out | apply qac | apply qab | apply qag) | exact HB.out)) hb); have n1_ := qaa.mk (hbox); have n2_ := qaa.mk ((by rw [hg]; exact (qal (by repeat (first | (with_reducible first | exact HB.out | apply qac | apply qab | apply qag) | exact HB.out))) : w.heap.size ≤ qch)); have n3_ := qaa.mk ((by rw [hg]; exact (qal (by repeat (first | (with_reducible first | exact HB.out | apply qac | apply qab | apply qag) | exact HB.out))) : w.heap.size ≤ qch)); clear HB; have HB := n0_; have qbp := n1_; have qr8 := n2_; have qfc := n3_; clear n0_ n1_ n2_ n3_; clear hb hbox hg; have qpk : w10.cell? ⟨qch, 0, none⟩ = some (.slice A0_0 l0_0.length c0_0) := (qaf qbp.out 0).trans rfl; have qpl : w10.cell? ⟨qch, 1, none⟩ = some (.slice A0_1 l0_1.length c0_1) := (qaf qbp.out 1).trans rfl; have qpm : w10.cell? ⟨qch, 2, none⟩ = some (.slice A0_2 l0_2.length c0_2) := (qaf qbp.out 2).trans rfl; have qpn : w10.cell? ⟨qch, 3, none⟩ = some (.int .i64 a0_3) := (qaf qbp.out 3).trans rfl; have qpo : w10.cell? ⟨qch, 4, none⟩ = some (.int .i64 a0_4) := (qaf qbp.out 4).trans rfl; have qpp := qaj qbp.out 0; have qpq := qaj qbp.out 1; have qpr := qaj qbp.out 2; have qps := qaj qbp.out 3; have qpt := qaj qbp.out 4) | ((with_reducible refine qaz (f := 25) rfl ?_); refine qbd (some 15) rfl rfl Try.func25 (by kernel_rfl) rfl #[.agg #[.slice A0_0 l0_0.length c0_0, .slice A0_1 l0_1.length c0_1, .slice A0_2 l0_2.length c0_2, .int .i64 a0_3, .int .i64 a0_4], .slice A1 l1.length c1, .slice A2 l2.length c2] rfl (by (try simp only [List.map_toArray, List.map_cons, List.map_nil]); first | done | rfl | (simp only [List.length_drop, List.length_take]; rfl)) ?_; (with_reducible refine (qaw.calls k _ _ l0_0 _ _ l0_1 _ _ l0_2 a0_3 a0_4 _ _ l1 _ _ l2 t470 t473 _ ?side1 ?side2 ?side3 ?side4 ?side5 ?side6 ?side7 ?side8 ?side9 ?side10 A4.out).mono ?_); (case side1 => repeat (first | exact (Kd.C_below qb9.out HB.out) | (with_reducible refine Kd.C_alloc ?_ _) | (with_reducible refine Kd.C_drewN ?_ _) | (with_reducible refine Kd.C_drew ?_))); (case side2 => exact qcx.out); (case side3 => repeat (first | exact (Kd.C_below qb2.out HB.out) | (with_reducible refine Kd.C_alloc ?_ _) | (with_reducible refine Kd.C_drewN ?_ _) | (with_reducible refine Kd.C_drew ?_))); (case side4 => exact qcj.out); (case side5 => repeat (first | exact (Kd.C_below qb8.out HB.out) | (with_reducible refine Kd.C_alloc ?_ _) | (with_reducible refine Kd.C_drewN ?_ _) | (with_reducible refine Kd.C_drew ?_))); (case side6 => exact qck.out); (case side7 => repeat (first | exact (Kd.C_below HR1.out HB.out) | (with_reducible refine Kd.C_alloc ?_ _) | (with_reducible refine Kd.C_drewN ?_ _) | (with_reducible refine Kd.C_drew ?_))); (case side8 => exact HC1.out); (case side9 => repeat (first | exact (Kd.C_below HR2.out HB.out) | (with_reducible refine Kd.C_alloc ?_ _) | (with_reducible refine Kd.C_drewN ?_ _) | (with_reducible refine Kd.C_drew ?_))); (case side10 => exact HC2.out); rintro e w12 ⟨v471, rfl, ho0, hb⟩; refine ⟨_, rfl, ?_⟩; have n0_ := qaa.mk (Kd.V_lower (Kd.V_mono (ok' := fun k_ => k_ ≠ qch) ho0 (fun k_ hk_ => (Kd.freshB (g := qch) (o := .cells #[.slice A0_0 l0_0.length c0_0, .slice A0_1 l0_1.length c0_1, .slice A0_2 l0_2.length c0_2, .int .i64 a0_3, .int .i64 a0_4] 39 (0, 0)) (by (with_reducible repeat (first | refine qae ?_ _ | refine qai ?_ | refine qad ?_ _)); exact qbp.out) k_ hk_))) (qal (by repeat (first | (with_reducible first | exact HB.out | apply qac | apply qab | apply qag | refine qah ?_ qfc.out) | exact HB.out)))); have n1_ := qaa.mk (qam (g := qch) (o := .cells #[.slice A0_0 l0_0.length c0_0, .slice A0_1 l0_1.length c0_1, .slice A0_2 l0_2.length c0_2, .int .i64 a0_3, .int .i64 a0_4] 39 (0, 0)) (by (with_reducible repeat (first | refine qae ?_ _ | refine qai ?_ | refine qad ?_ _)); exact qbp.out) hb); have n2_ := qaa.mk (qap (by repeat (first | (with_reducible first | exact HB.out | apply qac | apply qab | apply qag | refine qah ?_ qfc.out) | exact HB.out)) hb); clear qbp; clear HB; have qec := n0_; have qbp := n1_; have HB := n2_; clear n0_ n1_ n2_; (try clear hb); (try clear hb2); (try clear hk); (try clear hi); (try clear ho0); have qeD : w12.cell? ⟨qch, 0, none⟩ = some (.slice A0_0 l0_0.length c0_0) := (qaf qbp.out 0).trans rfl; have qeE : w12.cell? ⟨qch, 1, none⟩ = some (.slice A0_1 l0_1.length c0_1) := (qaf qbp.out 1).trans rfl; have qeF : w12.cell? ⟨qch, 2, none⟩ = some (.slice A0_2 l0_2.length c0_2) := (qaf qbp.out 2).trans rfl; have qgY : w12.cell? ⟨qch, 3, none⟩ = some (.int .i64 a0_3) := (qaf qbp.out 3).trans rfl; have qgZ : w12.cell? ⟨qch, 4, none⟩ = some (.int .i64 a0_4) := (qaf qbp.out 4).trans rfl; have qeG := qaj qbp.out 0; have qeH := qaj qbp.out 1; have qeI := qaj qbp.out 2; have qg0 := qaj qbp.out 3; have qg1 := qaj qbp.out 4) | ((with_reducible refine qaz (f := 26) rfl ?_); refine qbd (some 22) rfl rfl Try.func26 (by kernel_rfl) rfl #[.agg #[.slice A0_0 l0_0.length c0_0, .slice A0_1 l0_1.length c0_1, .slice A0_2 l0_2.length c0_2, .int .i64 a0_3, .int .i64 a0_4], .slice A1 l1.length c1, .slice A2 l2.length c2] rfl (by (try simp only [List.map_toArray, List.map_cons, List.map_nil]); first | done | rfl | (simp only [List.length_drop, List.length_take]; rfl)) ?_; (with_reducible refine (qdo.calls k _ _ l0_0 _ _ l0_1 _ _ l0_2 a0_3 a0_4 _ _ l1 _ _ l2 t474 t477 _ ?side1 ?side2 ?side3 ?side4 ?side5 ?side6 ?side7 ?side8 ?side9 ?side10 A5.out).mono ?_); (case side1 => repeat (first | exact (Kd.C_below qb9.out HB.out) | (with_reducible refine Kd.C_alloc ?_ _) | (with_reducible refine Kd.C_drewN ?_ _) | (with_reducible refine Kd.C_drew ?_))); (case side2 => exact qcx.out); (case side3 => repeat (first | exact (Kd.C_below qb2.out HB.out) | (with_reducible refine Kd.C_alloc ?_ _) | (with_reducible refine Kd.C_drewN ?_ _) | (with_reducible refine Kd.C_drew ?_))); (case side4 => exact qcj.out); (case side5 => repeat (first | exact (Kd.C_below qb8.out HB.out) | (with_reducible refine Kd.C_alloc ?_ _) | (with_reducible refine Kd.C_drewN ?_ _) | (with_reducible refine Kd.C_drew ?_))); (case side6 => exact qck.out); (case side7 => repeat (first | exact (Kd.C_below HR1.out HB.out) | (with_reducible refine Kd.C_alloc ?_ _) | (with_reducible refine Kd.C_drewN ?_ _) | (with_reducible refine Kd.C_drew ?_))); (case side8 => exact HC1.out); (case side9 => repeat (first | exact (Kd.C_below HR2.out HB.out) | (with_reducible refine Kd.C_alloc ?_ _) | (with_reducible refine Kd.C_drewN ?_ _) | (with_reducible refine Kd.C_drew ?_))); (case side10 => exact HC2.out); rintro e w14 ⟨v475, rfl, ho0, hb⟩; refine ⟨_, rfl, ?_⟩; have n0_ := qaa.mk (Kd.V_elder' (by (with_reducible repeat (first | apply Kd.V_alloc | apply Kd.V_drewN | apply Kd.V_drew)); exact qec.out) (Kd.R_base ho0) hb); have n1_ := qaa.mk (Kd.R_lower ho0 (qal (by repeat (first | (with_reducible first | exact HB.out | apply qac | apply qab | apply qag | refine qah ?_ qfc.out) | exact HB.out)))); have n2_ := qaa.mk (qam (g := qch) (o := .cells #[.slice A0_0 l0_0.length c0_0, .slice A0_1 l0_1.length c0_1, .slice A0_2 l0_2.length c0_2, .int .i64 a0_3, .int .i64 a0_4] 39 (0, 0)) (by (with_reducible repeat (first | refine qae ?_ _ | refine qai ?_ | refine qad ?_ _)); exact qbp.out) hb); have n3_ := qaa.mk (qap (by repeat (first | (with_reducible first | exact HB.out | apply qac | apply qab | apply qag | refine qah ?_ qfc.out) | exact HB.out)) hb); clear qec; clear qbp; clear HB; have qec := n0_; have qgb := n1_; have qbp := n2_; have HB := n3_; clear n0_ n1_ n2_ n3_; (try clear hb); (try clear hb2); (try clear hk); (try clear hi); (try clear ho0); obtain ⟨Ao15, co15, eo15⟩ := Kd.V_slice qec.out; subst eo15; obtain ⟨Ao16, co16, eo16⟩ := Kd.R_slice qgb.out; subst eo16) | ((with_reducible refine qaz (f := 27) rfl ?_); refine qbd (some 27) rfl rfl Try.func27 (by kernel_rfl) rfl #[.slice Ao15 t470.length co15, .slice Ao16 t474.length co16] rfl (by (try simp only [List.map_toArray, List.map_cons, List.map_nil]); first | done | rfl | (simp only [List.length_drop, List.length_take]; rfl)) ?_; (with_reducible refine (qbj.calls k _ _ t470 _ _ t474 true _ ?side1 ?side2 ?side3 ?side4 A6.out).mono ?_); (case side1 => repeat (first | exact (Kd.V_reads' qec.out).2.2 | (with_reducible refine Kd.C_alloc ?_ _) | (with_reducible refine Kd.C_drewN ?_ _) | (with_reducible refine Kd.C_drew ?_))); (case side2 => exact (Kd.V_reads' qec.out).2.1); (case side3 => repeat (first | exact (Kd.R_reads' qgb.out).2.2 | (with_reducible refine Kd.C_alloc ?_ _) | (with_reducible refine Kd.C_drewN ?_ _) | (with_reducible refine Kd.C_drew ?_))); (case side4 => exact (Kd.R_reads' qgb.out).2.1); rintro e w' ⟨rfl, ⟨nd, rfl⟩⟩; refine ⟨_, rfl, ?_⟩) | (go_at_call 21; (with_reducible refine (qcW.calls  t479 _ A9.out).mono ?_); rintro e w17 ⟨rfl, hb⟩; have n0_ := qaa.mk (Kd.V_below (by (with_reducible repeat (first | apply Kd.V_alloc | apply Kd.V_drewN | apply Kd.V_drew)); exact qec.out) hb); have n1_ := qaa.mk (Kd.R_below (by (with_reducible repeat (first | apply Kd.R_alloc | apply Kd.R_drewN | apply Kd.R_drew)); exact qgb.out) hb); have n2_ := qaa.mk (qam (g := qch) (o := .cells #[.slice A0_0 l0_0.length c0_0, .slice A0_1 l0_1.length c0_1, .slice A0_2 l0_2.length c0_2, .int .i64 a0_3, .int .i64 a0_4] 39 (0, 0)) (by (with_reducible repeat (first | refine qae ?_ _ | refine qai ?_ | refine qad ?_ _)); exact qbp.out) hb); have n3_ := qaa.mk (qap (by repeat (first | (with_reducible first | exact HB.out | apply qac | apply qab | apply qag | refine qah ?_ qfc.out) | exact HB.out)) hb); clear qec; clear qgb; clear qbp; clear HB; have qec := n0_; have qgb := n1_; have qbp := n2_; have HB := n3_; clear n0_ n1_ n2_ n3_; (try clear hb); (try clear hb2); (try clear hk); (try clear hi)))
   go_ret
   exact ⟨by first | rfl | (simp [qaC, qaB] <;> rfl) | (simp [*, qaC, qaB] <;> rfl), by repeat (first | (with_reducible first | exact HB.out | apply qac | apply qab | apply qag | refine qah ?_ qfc.out) | exact HB.out)⟩
  rw [if_neg c8] at H
  have c8b0 : (t473 == t477) = false := beq_eq_false_iff_ne.mpr c8
  have c8b1 : (t473 != t477) = true := bne_iff_ne.mpr c8
  obtain rfl := Option.some.inj H
  go_enter Try.func5, Try.ntmps5
  go_wp2_with (first | ((with_reducible refine qaN (N := 3) rfl ?_); refine qba ?hg (N := 3) ?hd (cs := #[.slice A0_0 l0_0.length c0_0, .slice A0_1 l0_1.length c0_1, .slice A0_2 l0_2.length c0_2, .int .i64 a0_3, .int .i64 a0_4]) (t := 39) ?hr ?_; (case hd => rfl); (case hg => rfl); (case hr => first | (go_simp; done) | (go_simp; rfl)); intro qch hg w18 hbox hb; have n0_ := qaa.mk (qap (by repeat (first | (with_reducible first | exact HB.out | apply qac | apply qab | apply qag) | exact HB.out)) hb); have n1_ := qaa.mk (hbox); have n2_ := qaa.mk ((by rw [hg]; exact (qal (by repeat (first | (with_reducible first | exact HB.out | apply qac | apply qab | apply qag) | exact HB.out))) : w.heap.size ≤ qch)); have n3_ := qaa.mk ((by rw [hg]; exact (qal (by repeat (first | (with_reducible first | exact HB.out | apply qac | apply qab | apply qag) | exact HB.out))) : w.heap.size ≤ qch)); clear HB; have HB := n0_; have qbp := n1_; have qr8 := n2_; have qfc := n3_; clear n0_ n1_ n2_ n3_; clear hb hbox hg; have qoF : w18.cell? ⟨qch, 0, none⟩ = some (.slice A0_0 l0_0.length c0_0) := (qaf qbp.out 0).trans rfl; have qoG : w18.cell? ⟨qch, 1, none⟩ = some (.slice A0_1 l0_1.length c0_1) := (qaf qbp.out 1).trans rfl; have qoH : w18.cell? ⟨qch, 2, none⟩ = some (.slice A0_2 l0_2.length c0_2) := (qaf qbp.out 2).trans rfl; have qts : w18.cell? ⟨qch, 3, none⟩ = some (.int .i64 a0_3) := (qaf qbp.out 3).trans rfl; have qtt : w18.cell? ⟨qch, 4, none⟩ = some (.int .i64 a0_4) := (qaf qbp.out 4).trans rfl; have qoI := qaj qbp.out 0; have qoJ := qaj qbp.out 1; have qoK := qaj qbp.out 2; have qtu := qaj qbp.out 3; have qtv := qaj qbp.out 4) | ((with_reducible refine qaz (f := 25) rfl ?_); refine qbd (some 15) rfl rfl Try.func25 (by kernel_rfl) rfl #[.agg #[.slice A0_0 l0_0.length c0_0, .slice A0_1 l0_1.length c0_1, .slice A0_2 l0_2.length c0_2, .int .i64 a0_3, .int .i64 a0_4], .slice A1 l1.length c1, .slice A2 l2.length c2] rfl (by (try simp only [List.map_toArray, List.map_cons, List.map_nil]); first | done | rfl | (simp only [List.length_drop, List.length_take]; rfl)) ?_; (with_reducible refine (qaw.calls k _ _ l0_0 _ _ l0_1 _ _ l0_2 a0_3 a0_4 _ _ l1 _ _ l2 t470 t473 _ ?side1 ?side2 ?side3 ?side4 ?side5 ?side6 ?side7 ?side8 ?side9 ?side10 A4.out).mono ?_); (case side1 => repeat (first | exact (Kd.C_below qb9.out HB.out) | (with_reducible refine Kd.C_alloc ?_ _) | (with_reducible refine Kd.C_drewN ?_ _) | (with_reducible refine Kd.C_drew ?_))); (case side2 => exact qcx.out); (case side3 => repeat (first | exact (Kd.C_below qb2.out HB.out) | (with_reducible refine Kd.C_alloc ?_ _) | (with_reducible refine Kd.C_drewN ?_ _) | (with_reducible refine Kd.C_drew ?_))); (case side4 => exact qcj.out); (case side5 => repeat (first | exact (Kd.C_below qb8.out HB.out) | (with_reducible refine Kd.C_alloc ?_ _) | (with_reducible refine Kd.C_drewN ?_ _) | (with_reducible refine Kd.C_drew ?_))); (case side6 => exact qck.out); (case side7 => repeat (first | exact (Kd.C_below HR1.out HB.out) | (with_reducible refine Kd.C_alloc ?_ _) | (with_reducible refine Kd.C_drewN ?_ _) | (with_reducible refine Kd.C_drew ?_))); (case side8 => exact HC1.out); (case side9 => repeat (first | exact (Kd.C_below HR2.out HB.out) | (with_reducible refine Kd.C_alloc ?_ _) | (with_reducible refine Kd.C_drewN ?_ _) | (with_reducible refine Kd.C_drew ?_))); (case side10 => exact HC2.out); rintro e w20 ⟨v471, rfl, ho0, hb⟩; refine ⟨_, rfl, ?_⟩; have n0_ := qaa.mk (Kd.V_lower (Kd.V_mono (ok' := fun k_ => k_ ≠ qch) ho0 (fun k_ hk_ => (Kd.freshB (g := qch) (o := .cells #[.slice A0_0 l0_0.length c0_0, .slice A0_1 l0_1.length c0_1, .slice A0_2 l0_2.length c0_2, .int .i64 a0_3, .int .i64 a0_4] 39 (0, 0)) (by (with_reducible repeat (first | refine qae ?_ _ | refine qai ?_ | refine qad ?_ _)); exact qbp.out) k_ hk_))) (qal (by repeat (first | (with_reducible first | exact HB.out | apply qac | apply qab | apply qag | refine qah ?_ qfc.out) | exact HB.out)))); have n1_ := qaa.mk (qam (g := qch) (o := .cells #[.slice A0_0 l0_0.length c0_0, .slice A0_1 l0_1.length c0_1, .slice A0_2 l0_2.length c0_2, .int .i64 a0_3, .int .i64 a0_4] 39 (0, 0)) (by (with_reducible repeat (first | refine qae ?_ _ | refine qai ?_ | refine qad ?_ _)); exact qbp.out) hb); have n2_ := qaa.mk (qap (by repeat (first | (with_reducible first | exact HB.out | apply qac | apply qab | apply qag | refine qah ?_ qfc.out) | exact HB.out)) hb); clear qbp; clear HB; have qec := n0_; have qbp := n1_; have HB := n2_; clear n0_ n1_ n2_; (try clear hb); (try clear hb2); (try clear hk); (try clear hi); (try clear ho0); have qfU : w20.cell? ⟨qch, 0, none⟩ = some (.slice A0_0 l0_0.length c0_0) := (qaf qbp.out 0).trans rfl; have qfV : w20.cell? ⟨qch, 1, none⟩ = some (.slice A0_1 l0_1.length c0_1) := (qaf qbp.out 1).trans rfl; have qfW : w20.cell? ⟨qch, 2, none⟩ = some (.slice A0_2 l0_2.length c0_2) := (qaf qbp.out 2).trans rfl; have qjg : w20.cell? ⟨qch, 3, none⟩ = some (.int .i64 a0_3) := (qaf qbp.out 3).trans rfl; have qjh : w20.cell? ⟨qch, 4, none⟩ = some (.int .i64 a0_4) := (qaf qbp.out 4).trans rfl; have qfX := qaj qbp.out 0; have qfY := qaj qbp.out 1; have qfZ := qaj qbp.out 2; have qji := qaj qbp.out 3; have qjj := qaj qbp.out 4) | ((with_reducible refine qaz (f := 26) rfl ?_); refine qbd (some 22) rfl rfl Try.func26 (by kernel_rfl) rfl #[.agg #[.slice A0_0 l0_0.length c0_0, .slice A0_1 l0_1.length c0_1, .slice A0_2 l0_2.length c0_2, .int .i64 a0_3, .int .i64 a0_4], .slice A1 l1.length c1, .slice A2 l2.length c2] rfl (by (try simp only [List.map_toArray, List.map_cons, List.map_nil]); first | done | rfl | (simp only [List.length_drop, List.length_take]; rfl)) ?_; (with_reducible refine (qdo.calls k _ _ l0_0 _ _ l0_1 _ _ l0_2 a0_3 a0_4 _ _ l1 _ _ l2 t474 t477 _ ?side1 ?side2 ?side3 ?side4 ?side5 ?side6 ?side7 ?side8 ?side9 ?side10 A5.out).mono ?_); (case side1 => repeat (first | exact (Kd.C_below qb9.out HB.out) | (with_reducible refine Kd.C_alloc ?_ _) | (with_reducible refine Kd.C_drewN ?_ _) | (with_reducible refine Kd.C_drew ?_))); (case side2 => exact qcx.out); (case side3 => repeat (first | exact (Kd.C_below qb2.out HB.out) | (with_reducible refine Kd.C_alloc ?_ _) | (with_reducible refine Kd.C_drewN ?_ _) | (with_reducible refine Kd.C_drew ?_))); (case side4 => exact qcj.out); (case side5 => repeat (first | exact (Kd.C_below qb8.out HB.out) | (with_reducible refine Kd.C_alloc ?_ _) | (with_reducible refine Kd.C_drewN ?_ _) | (with_reducible refine Kd.C_drew ?_))); (case side6 => exact qck.out); (case side7 => repeat (first | exact (Kd.C_below HR1.out HB.out) | (with_reducible refine Kd.C_alloc ?_ _) | (with_reducible refine Kd.C_drewN ?_ _) | (with_reducible refine Kd.C_drew ?_))); (case side8 => exact HC1.out); (case side9 => repeat (first | exact (Kd.C_below HR2.out HB.out) | (with_reducible refine Kd.C_alloc ?_ _) | (with_reducible refine Kd.C_drewN ?_ _) | (with_reducible refine Kd.C_drew ?_))); (case side10 => exact HC2.out); rintro e w22 ⟨v475, rfl, ho0, hb⟩; refine ⟨_, rfl, ?_⟩; have n0_ := qaa.mk (Kd.V_elder' (by (with_reducible repeat (first | apply Kd.V_alloc | apply Kd.V_drewN | apply Kd.V_drew)); exact qec.out) (Kd.R_base ho0) hb); have n1_ := qaa.mk (Kd.R_lower ho0 (qal (by repeat (first | (with_reducible first | exact HB.out | apply qac | apply qab | apply qag | refine qah ?_ qfc.out) | exact HB.out)))); have n2_ := qaa.mk (qam (g := qch) (o := .cells #[.slice A0_0 l0_0.length c0_0, .slice A0_1 l0_1.length c0_1, .slice A0_2 l0_2.length c0_2, .int .i64 a0_3, .int .i64 a0_4] 39 (0, 0)) (by (with_reducible repeat (first | refine qae ?_ _ | refine qai ?_ | refine qad ?_ _)); exact qbp.out) hb); have n3_ := qaa.mk (qap (by repeat (first | (with_reducible first | exact HB.out | apply qac | apply qab | apply qag | refine qah ?_ qfc.out) | exact HB.out)) hb); clear qec; clear qbp; clear HB; have qec := n0_; have qgb := n1_; have qbp := n2_; have HB := n3_; clear n0_ n1_ n2_ n3_; (try clear hb); (try clear hb2); (try clear hk); (try clear hi); (try clear ho0); obtain ⟨Ao23, co23, eo23⟩ := Kd.V_slice qec.out; subst eo23; obtain ⟨Ao24, co24, eo24⟩ := Kd.R_slice qgb.out; subst eo24) | ((with_reducible refine qaz (f := 27) rfl ?_); refine qbd (some 27) rfl rfl Try.func27 (by kernel_rfl) rfl #[.slice Ao23 t470.length co23, .slice Ao24 t474.length co24] rfl (by (try simp only [List.map_toArray, List.map_cons, List.map_nil]); first | done | rfl | (simp only [List.length_drop, List.length_take]; rfl)) ?_; (with_reducible refine (qbj.calls k _ _ t470 _ _ t474 true _ ?side1 ?side2 ?side3 ?side4 A6.out).mono ?_); (case side1 => repeat (first | exact (Kd.V_reads' qec.out).2.2 | (with_reducible refine Kd.C_alloc ?_ _) | (with_reducible refine Kd.C_drewN ?_ _) | (with_reducible refine Kd.C_drew ?_))); (case side2 => exact (Kd.V_reads' qec.out).2.1); (case side3 => repeat (first | exact (Kd.R_reads' qgb.out).2.2 | (with_reducible refine Kd.C_alloc ?_ _) | (with_reducible refine Kd.C_drewN ?_ _) | (with_reducible refine Kd.C_drew ?_))); (case side4 => exact (Kd.R_reads' qgb.out).2.1); rintro e w' ⟨rfl, ⟨nd, rfl⟩⟩; refine ⟨_, rfl, ?_⟩))
  go_ret
  exact ⟨by first | rfl | (simp [qaC, qaB] <;> rfl) | (simp [*, qaC, qaB] <;> rfl), by repeat (first | (with_reducible first | exact HB.out | apply qac | apply qab | apply qag | refine qah ?_ qfc.out) | exact HB.out)⟩
 replace c7 := Bool.eq_false_iff.mpr c7
 subst c7
 have H1 : (some false) = some r := by rw [if_neg (show ¬ (false = true) by decide)] at H; exact H
 clear H
 have H := H1
 clear H1
 obtain rfl := Option.some.inj H
 go_enter Try.func5, Try.ntmps5
 go_wp2_with (first | ((with_reducible refine qaN (N := 3) rfl ?_); refine qba ?hg (N := 3) ?hd (cs := #[.slice A0_0 l0_0.length c0_0, .slice A0_1 l0_1.length c0_1, .slice A0_2 l0_2.length c0_2, .int .i64 a0_3, .int .i64 a0_4]) (t := 39) ?hr ?_; (case hd => rfl); (case hg => rfl); (case hr => first | (go_simp; done) | (go_simp; rfl)); intro qch hg w25 hbox hb; have n0_ := qaa.mk (qap (by repeat (first | (with_reducible first | exact HB.out | apply qac | apply qab | apply qag) | exact HB.out)) hb); have n1_ := qaa.mk (hbox); have n2_ := qaa.mk ((by rw [hg]; exact (qal (by repeat (first | (with_reducible first | exact HB.out | apply qac | apply qab | apply qag) | exact HB.out))) : w.heap.size ≤ qch)); have n3_ := qaa.mk ((by rw [hg]; exact (qal (by repeat (first | (with_reducible first | exact HB.out | apply qac | apply qab | apply qag) | exact HB.out))) : w.heap.size ≤ qch)); clear HB; have HB := n0_; have qbp := n1_; have qr8 := n2_; have qfc := n3_; clear n0_ n1_ n2_ n3_; clear hb hbox hg; have qt7 : w25.cell? ⟨qch, 0, none⟩ = some (.slice A0_0 l0_0.length c0_0) := (qaf qbp.out 0).trans rfl; have qt8 : w25.cell? ⟨qch, 1, none⟩ = some (.slice A0_1 l0_1.length c0_1) := (qaf qbp.out 1).trans rfl; have qt9 : w25.cell? ⟨qch, 2, none⟩ = some (.slice A0_2 l0_2.length c0_2) := (qaf qbp.out 2).trans rfl; have qCg : w25.cell? ⟨qch, 3, none⟩ = some (.int .i64 a0_3) := (qaf qbp.out 3).trans rfl; have qCh : w25.cell? ⟨qch, 4, none⟩ = some (.int .i64 a0_4) := (qaf qbp.out 4).trans rfl; have qua := qaj qbp.out 0; have qub := qaj qbp.out 1; have quc := qaj qbp.out 2; have qCi := qaj qbp.out 3; have qCj := qaj qbp.out 4) | ((with_reducible refine qaz (f := 25) rfl ?_); refine qbd (some 15) rfl rfl Try.func25 (by kernel_rfl) rfl #[.agg #[.slice A0_0 l0_0.length c0_0, .slice A0_1 l0_1.length c0_1, .slice A0_2 l0_2.length c0_2, .int .i64 a0_3, .int .i64 a0_4], .slice A1 l1.length c1, .slice A2 l2.length c2] rfl (by (try simp only [List.map_toArray, List.map_cons, List.map_nil]); first | done | rfl | (simp only [List.length_drop, List.length_take]; rfl)) ?_; (with_reducible refine (qaw.calls k _ _ l0_0 _ _ l0_1 _ _ l0_2 a0_3 a0_4 _ _ l1 _ _ l2 t470 t473 _ ?side1 ?side2 ?side3 ?side4 ?side5 ?side6 ?side7 ?side8 ?side9 ?side10 A4.out).mono ?_); (case side1 => repeat (first | exact (Kd.C_below qb9.out HB.out) | (with_reducible refine Kd.C_alloc ?_ _) | (with_reducible refine Kd.C_drewN ?_ _) | (with_reducible refine Kd.C_drew ?_))); (case side2 => exact qcx.out); (case side3 => repeat (first | exact (Kd.C_below qb2.out HB.out) | (with_reducible refine Kd.C_alloc ?_ _) | (with_reducible refine Kd.C_drewN ?_ _) | (with_reducible refine Kd.C_drew ?_))); (case side4 => exact qcj.out); (case side5 => repeat (first | exact (Kd.C_below qb8.out HB.out) | (with_reducible refine Kd.C_alloc ?_ _) | (with_reducible refine Kd.C_drewN ?_ _) | (with_reducible refine Kd.C_drew ?_))); (case side6 => exact qck.out); (case side7 => repeat (first | exact (Kd.C_below HR1.out HB.out) | (with_reducible refine Kd.C_alloc ?_ _) | (with_reducible refine Kd.C_drewN ?_ _) | (with_reducible refine Kd.C_drew ?_))); (case side8 => exact HC1.out); (case side9 => repeat (first | exact (Kd.C_below HR2.out HB.out) | (with_reducible refine Kd.C_alloc ?_ _) | (with_reducible refine Kd.C_drewN ?_ _) | (with_reducible refine Kd.C_drew ?_))); (case side10 => exact HC2.out); rintro e w27 ⟨v471, rfl, ho0, hb⟩; refine ⟨_, rfl, ?_⟩; have n0_ := qaa.mk (Kd.V_lower (Kd.V_mono (ok' := fun k_ => k_ ≠ qch) ho0 (fun k_ hk_ => (Kd.freshB (g := qch) (o := .cells #[.slice A0_0 l0_0.length c0_0, .slice A0_1 l0_1.length c0_1, .slice A0_2 l0_2.length c0_2, .int .i64 a0_3, .int .i64 a0_4] 39 (0, 0)) (by (with_reducible repeat (first | refine qae ?_ _ | refine qai ?_ | refine qad ?_ _)); exact qbp.out) k_ hk_))) (qal (by repeat (first | (with_reducible first | exact HB.out | apply qac | apply qab | apply qag | refine qah ?_ qfc.out) | exact HB.out)))); have n1_ := qaa.mk (qam (g := qch) (o := .cells #[.slice A0_0 l0_0.length c0_0, .slice A0_1 l0_1.length c0_1, .slice A0_2 l0_2.length c0_2, .int .i64 a0_3, .int .i64 a0_4] 39 (0, 0)) (by (with_reducible repeat (first | refine qae ?_ _ | refine qai ?_ | refine qad ?_ _)); exact qbp.out) hb); have n2_ := qaa.mk (qap (by repeat (first | (with_reducible first | exact HB.out | apply qac | apply qab | apply qag | refine qah ?_ qfc.out) | exact HB.out)) hb); clear qbp; clear HB; have qec := n0_; have qbp := n1_; have HB := n2_; clear n0_ n1_ n2_; (try clear hb); (try clear hb2); (try clear hk); (try clear hi); (try clear ho0); have qia : w27.cell? ⟨qch, 0, none⟩ = some (.slice A0_0 l0_0.length c0_0) := (qaf qbp.out 0).trans rfl; have qib : w27.cell? ⟨qch, 1, none⟩ = some (.slice A0_1 l0_1.length c0_1) := (qaf qbp.out 1).trans rfl; have qmr : w27.cell? ⟨qch, 2, none⟩ = some (.slice A0_2 l0_2.length c0_2) := (qaf qbp.out 2).trans rfl; have qms : w27.cell? ⟨qch, 3, none⟩ = some (.int .i64 a0_3) := (qaf qbp.out 3).trans rfl; have qmt : w27.cell? ⟨qch, 4, none⟩ = some (.int .i64 a0_4) := (qaf qbp.out 4).trans rfl; have qic := qaj qbp.out 0; have qid := qaj qbp.out 1; have qmu := qaj qbp.out 2; have qmv := qaj qbp.out 3; have qmw := qaj qbp.out 4) | ((with_reducible refine qaz (f := 26) rfl ?_); refine qbd (some 22) rfl rfl Try.func26 (by kernel_rfl) rfl #[.agg #[.slice A0_0 l0_0.length c0_0, .slice A0_1 l0_1.length c0_1, .slice A0_2 l0_2.length c0_2, .int .i64 a0_3, .int .i64 a0_4], .slice A1 l1.length c1, .slice A2 l2.length c2] rfl (by (try simp only [List.map_toArray, List.map_cons, List.map_nil]); first | done | rfl | (simp only [List.length_drop, List.length_take]; rfl)) ?_; (with_reducible refine (qdo.calls k _ _ l0_0 _ _ l0_1 _ _ l0_2 a0_3 a0_4 _ _ l1 _ _ l2 t474 t477 _ ?side1 ?side2 ?side3 ?side4 ?side5 ?side6 ?side7 ?side8 ?side9 ?side10 A5.out).mono ?_); (case side1 => repeat (first | exact (Kd.C_below qb9.out HB.out) | (with_reducible refine Kd.C_alloc ?_ _) | (with_reducible refine Kd.C_drewN ?_ _) | (with_reducible refine Kd.C_drew ?_))); (case side2 => exact qcx.out); (case side3 => repeat (first | exact (Kd.C_below qb2.out HB.out) | (with_reducible refine Kd.C_alloc ?_ _) | (with_reducible refine Kd.C_drewN ?_ _) | (with_reducible refine Kd.C_drew ?_))); (case side4 => exact qcj.out); (case side5 => repeat (first | exact (Kd.C_below qb8.out HB.out) | (with_reducible refine Kd.C_alloc ?_ _) | (with_reducible refine Kd.C_drewN ?_ _) | (with_reducible refine Kd.C_drew ?_))); (case side6 => exact qck.out); (case side7 => repeat (first | exact (Kd.C_below HR1.out HB.out) | (with_reducible refine Kd.C_alloc ?_ _) | (with_reducible refine Kd.C_drewN ?_ _) | (with_reducible refine Kd.C_drew ?_))); (case side8 => exact HC1.out); (case side9 => repeat (first | exact (Kd.C_below HR2.out HB.out) | (with_reducible refine Kd.C_alloc ?_ _) | (with_reducible refine Kd.C_drewN ?_ _) | (with_reducible refine Kd.C_drew ?_))); (case side10 => exact HC2.out); rintro e w29 ⟨v475, rfl, ho0, hb⟩; refine ⟨_, rfl, ?_⟩; have n0_ := qaa.mk (Kd.V_elder' (by (with_reducible repeat (first | apply Kd.V_alloc | apply Kd.V_drewN | apply Kd.V_drew)); exact qec.out) (Kd.R_base ho0) hb); have n1_ := qaa.mk (Kd.R_lower ho0 (qal (by repeat (first | (with_reducible first | exact HB.out | apply qac | apply qab | apply qag | refine qah ?_ qfc.out) | exact HB.out)))); have n2_ := qaa.mk (qam (g := qch) (o := .cells #[.slice A0_0 l0_0.length c0_0, .slice A0_1 l0_1.length c0_1, .slice A0_2 l0_2.length c0_2, .int .i64 a0_3, .int .i64 a0_4] 39 (0, 0)) (by (with_reducible repeat (first | refine qae ?_ _ | refine qai ?_ | refine qad ?_ _)); exact qbp.out) hb); have n3_ := qaa.mk (qap (by repeat (first | (with_reducible first | exact HB.out | apply qac | apply qab | apply qag | refine qah ?_ qfc.out) | exact HB.out)) hb); clear qec; clear qbp; clear HB; have qec := n0_; have qgb := n1_; have qbp := n2_; have HB := n3_; clear n0_ n1_ n2_ n3_; (try clear hb); (try clear hb2); (try clear hk); (try clear hi); (try clear ho0); obtain ⟨Ao30, co30, eo30⟩ := Kd.V_slice qec.out; subst eo30; obtain ⟨Ao31, co31, eo31⟩ := Kd.R_slice qgb.out; subst eo31) | ((with_reducible refine qaz (f := 27) rfl ?_); refine qbd (some 27) rfl rfl Try.func27 (by kernel_rfl) rfl #[.slice Ao30 t470.length co30, .slice Ao31 t474.length co31] rfl (by (try simp only [List.map_toArray, List.map_cons, List.map_nil]); first | done | rfl | (simp only [List.length_drop, List.length_take]; rfl)) ?_; (with_reducible refine (qbj.calls k _ _ t470 _ _ t474 false _ ?side1 ?side2 ?side3 ?side4 A6.out).mono ?_); (case side1 => repeat (first | exact (Kd.V_reads' qec.out).2.2 | (with_reducible refine Kd.C_alloc ?_ _) | (with_reducible refine Kd.C_drewN ?_ _) | (with_reducible refine Kd.C_drew ?_))); (case side2 => exact (Kd.V_reads' qec.out).2.1); (case side3 => repeat (first | exact (Kd.R_reads' qgb.out).2.2 | (with_reducible refine Kd.C_alloc ?_ _) | (with_reducible refine Kd.C_drewN ?_ _) | (with_reducible refine Kd.C_drew ?_))); (case side4 => exact (Kd.R_reads' qgb.out).2.1); rintro e w' ⟨rfl, ⟨nd, rfl⟩⟩; refine ⟨_, rfl, ?_⟩))
 go_ret
 exact ⟨by first | rfl | (simp [qaC, qaB] <;> rfl) | (simp [*, qaC, qaB] <;> rfl), by repeat (first | (with_reducible first | exact HB.out | apply qac | apply qab | apply qag | refine qah ?_ qfc.out) | exact HB.out)⟩
end Go.Proofs.Ytmhomdohhihlcaa.P
namespace Go.Proofs.Ytmhomdohhihlcaa.P
open Go.RowKit Go.ChangeShapes Go.WideShapes Go.Proofs.YtmhomdohhihlcaaW.PrintWords Go.Proofs.YtmhomdohhihlcaaW.PrintLast Go.Proofs.YtmhomdohhihlcaaW.PrintMore
def qi3 {α : Type} (d : Kd α) (t : TypeId) (p : α → Prop) : Prop := ∀ (H : Type) (enc : TypeId × Value → H) (w : World) (fuel : Nat) (cs : List Value) (x : DataW H × List MemPlace),
 DataW.trod enc Try.prog w 0 (fun _ => true) true fuel t cs = some x → ∃ a, d.K w a cs ∧ p a
def Wf (n : Int) : Prop := (Lit.int .i64 n).wf = true
theorem qqy : qi3 (Kd.int .i64) 3 Wf := fun H enc w fuel cs x h => by
 obtain ⟨n, rfl, _, hw⟩ := DataW.trod_int Try.underlying3 h
 exact ⟨n, rfl, hw⟩
theorem qoi {α : Type} {d : Kd α} {e e' t : TypeId} {p : α → Prop} (h : qi3 d e p) (ht : Try.prog.underlying t = some (.slice e)) (hc : Try.prog.cellsOf e = d.sz) : qi3 (Kd.slice e' d) t (fun xs => ∀ x ∈ xs, p x) := fun H enc w fuel cs x hf => by
 rcases Deep.open_slice ht hf with ⟨rfl, _⟩ | ⟨a, len, cap, m, n, D, Pl, rfl, _, hl, hm, hmm, _, hx⟩
 ·
  exact ⟨[], ⟨none, 0, rfl, Nat.le_refl _, Kd.C_nil d w⟩, fun x hx => by simp at hx⟩
 ·
  have each : ∀ i, i < len → ∃ z : α, (∃ c, c.length = d.sz ∧ d.K w z c ∧ ∀ j u, c[j]? = some u → w.cell? (a.add (i * d.sz + j)) = some u) ∧ p z := fun i hi => by
   obtain ⟨cs', h1, h2⟩ := hx i (by simp only [if_true] at hmm; omega)
   obtain ⟨z, hz, hp⟩ := h H enc w n cs' _ h2
   obtain ⟨_, hcl, hat⟩ := World.cells?_some h1
   refine ⟨z, ⟨cs', d.K_len hz, hz, fun j u hu => ?_⟩, hp⟩
   have hj : j < cs'.length := (List.getElem?_eq_some_iff.1 hu).1
   rw [d.K_len hz] at hj
   have hj' : j < Try.prog.cellsOf e := by rw [hc]; exact hj
   have h3 := hat j hj'
   rw [Deep.add_add, hc] at h3
   rw [h3]
   exact hu
  by_cases h0 : len = 0
  ·
   subst h0
   exact ⟨[], ⟨some a, cap, rfl, by simp, ⟨rfl, by simp, fun hh => by simp at hh⟩⟩, fun x hx => by simp at hx⟩
  ·
   obtain ⟨z0, _⟩ := each 0 (by omega)
   have inst : Inhabited α := ⟨z0⟩
   obtain ⟨f, hfz⟩ := Deep.choose_lt each
   have hmx : cap ≤ 9223372036854775807 := by unfold maxLen at hm; omega
   refine ⟨(List.range len).map f, ⟨some a, cap, by simp, by simpa using hl, ⟨rfl, by simp; omega, fun _ => ⟨a, rfl, fun j q hj => ?_⟩⟩⟩, fun x hx => ?_⟩
   ·
    have hj2 : j < len := by have := (List.getElem?_eq_some_iff.1 hj).1; simpa using this
    rw [List.getElem?_map, List.getElem?_range hj2] at hj
    injection hj with hj
    subst hj; obtain ⟨c, c1, c2, c3⟩ := (hfz j hj2).1
    exact ⟨c, c1, c2, c3⟩
   ·
    obtain ⟨i, hi, rfl⟩ := List.mem_map.1 hx
    exact (hfz i (List.mem_range.1 hi)).2
theorem c3 : Try.prog.cellsOf 3 = 1 := by kernel_rfl
theorem c25 : Try.prog.cellsOf 25 = 2 := by kernel_rfl
theorem c37 : Try.prog.cellsOf 37 = 1 := by kernel_rfl
theorem c32 : Try.prog.cellsOf 32 = 1 := by kernel_rfl
theorem c63 : Try.prog.cellsOf 63 = 1 := by kernel_rfl
theorem c44 : Try.prog.cellsOf 44 = 1 := by kernel_rfl
theorem c45 : Try.prog.cellsOf 45 = 1 := by kernel_rfl
theorem c39 : Try.prog.cellsOf 39 = 5 := by kernel_rfl
theorem c47 : Try.prog.cellsOf 47 = 3 := by kernel_rfl
theorem c23 : Try.prog.cellsOf 23 = 2 := by kernel_rfl
theorem len2 {α : Type} {l : List α} (h : l.length = 2) : ∃ a b, l = [a, b] := by
 match l, h with
 | [a, b], _ => exact ⟨a, b, rfl⟩
theorem len5 {α : Type} {l : List α} (h : l.length = 5) : ∃ a b c d e, l = [a, b, c, d, e] := by
 match l, h with
 | [a, b, c, d, e], _ => exact ⟨a, b, c, d, e, rfl⟩
theorem qi0 {α : Type} {l : List α} {i : Nat} {o : Option α} (hi : i < l.length) (h : o = l[i]?) : ∃ y, o = some y := ⟨l[i], by rw [h, List.getElem?_eq_getElem hi]⟩
def WL (l : List Int) : Prop := ∀ x ∈ l, Wf x
def W39 (s : S39) : Prop := WL s.f0 ∧ WL s.f1 ∧ WL s.f2 ∧ Wf s.f3 ∧ Wf s.f4
theorem qhi : qi3 (Kd.slice 3 (Kd.int .i64)) 37 WL := qoi qqy Try.underlying37 c3
theorem qqZ : qi3 k39 39 W39 := fun H enc w fuel cs x h => by
 obtain ⟨xs, n, _, _, hl, hxl, hf⟩ := DataW.trod_struct Try.underlying39 h
 rw [c39] at hl
 obtain ⟨a, b, c, d, e, rfl⟩ := len5 hl
 have h0 : DataW.trod enc Try.prog w 0 (fun _ => true) true n 37 (([a, b, c, d, e].drop 0).take (Try.prog.cellsOf 37)) = xs[0]? := hf 0 _ rfl
 have h1 : DataW.trod enc Try.prog w 0 (fun _ => true) true n 37 (([a, b, c, d, e].drop 1).take (Try.prog.cellsOf 37)) = xs[1]? := hf 1 _ rfl
 have h2 : DataW.trod enc Try.prog w 0 (fun _ => true) true n 37 (([a, b, c, d, e].drop 2).take (Try.prog.cellsOf 37)) = xs[2]? := hf 2 _ rfl
 have h3 : DataW.trod enc Try.prog w 0 (fun _ => true) true n 3 (([a, b, c, d, e].drop 3).take (Try.prog.cellsOf 3)) = xs[3]? := hf 3 _ rfl
 have h4 : DataW.trod enc Try.prog w 0 (fun _ => true) true n 3 (([a, b, c, d, e].drop 4).take (Try.prog.cellsOf 3)) = xs[4]? := hf 4 _ rfl
 rw [c37] at h0 h1 h2
 rw [c3] at h3 h4
 have hx2 : xs.length = 5 := hxl
 obtain ⟨y0, e0⟩ := qi0 (by omega) h0
 obtain ⟨y1, e1⟩ := qi0 (by omega) h1
 obtain ⟨y2, e2⟩ := qi0 (by omega) h2
 obtain ⟨y3, e3⟩ := qi0 (by omega) h3
 obtain ⟨y4, e4⟩ := qi0 (by omega) h4
 obtain ⟨l0, ⟨A0, d0, q0, z0, k0⟩, g0⟩ := qhi H enc w n _ _ e0
 obtain ⟨l1, ⟨A1, d1, q1, z1, k1⟩, g1⟩ := qhi H enc w n _ _ e1
 obtain ⟨l2, ⟨A2, d2, q2, z2, k2⟩, g2⟩ := qhi H enc w n _ _ e2
 obtain ⟨n3, q3, _, g3⟩ := DataW.trod_int Try.underlying3 e3
 obtain ⟨n4, q4, _, g4⟩ := DataW.trod_int Try.underlying3 e4
 replace q0 : [a] = [Value.slice A0 l0.length d0] := q0
 replace q1 : [b] = [Value.slice A1 l1.length d1] := q1
 replace q2 : [c] = [Value.slice A2 l2.length d2] := q2
 replace q3 : [d] = [Value.int .i64 n3] := q3
 replace q4 : [e] = [Value.int .i64 n4] := q4
 injection q0 with q0
 injection q1 with q1
 injection q2 with q2
 injection q3 with q3
 injection q4 with q4
 subst q0 q1 q2 q3 q4
 exact ⟨⟨l0, l1, l2, n3, n4⟩, qqk w ⟨l0, l1, l2, n3, n4⟩ z0 k0 z1 k1 z2 k2, g0, g1, g2, g3, g4⟩
section
variable {H : Type} {enc : TypeId × Value → H} {W : World} {d : DataW H} {ps : List MemPlace}
theorem qmW {α : Type} {k : Kd α} {t e' : TypeId} {p : List α → Prop} (hr : qi3 (Kd.slice e' k) t p) {a : Option Addr} {len cap : Nat} (h : DataW.Trod enc Try.prog W 0 (fun _ => true) true t (.slice a len cap) d ps) :
  ∃ l : List α, len = l.length ∧ Kd.C k W a l.length l ∧ l.length ≤ cap ∧ p l := by
 obtain ⟨fuel, hf⟩ := h
 obtain ⟨l, ⟨A, c, e1, hc, hC⟩, hp⟩ := hr H enc W fuel _ _ hf
 replace e1 : [Value.slice a len cap] = [Value.slice A l.length c] := e1
 injection e1 with e1
 injection e1 with e1 e2 e3
 subst e1 e2 e3
 exact ⟨l, rfl, hC, hc, hp⟩
theorem qnM {t e : TypeId} {a : Option Addr} {len cap : Nat} {ts : List TypeId} {ds : List (DataW H)} {j : Nat} {B : Nat}
  (hsz : (DataW.weightsEach Try.prog ts ds).all (· ≤ reachBytes) = true) (ht : ts[j]? = some t) (hd : ds[j]? = some d) (hu : Try.prog.underlying t = some (.slice e)) (hB : Try.prog.bytesOf e = B)
  (h : DataW.Trod enc Try.prog W 0 (fun _ => true) true t (.slice a len cap) d ps) : len * B ≤ 140737488351232 := by
 obtain ⟨fuel, hf⟩ := h
 rcases Deep.open_slice hu hf with ⟨hcs, _⟩ | ⟨a', len', cap', m, n, D, Pl, hcs, _, hl, _, hmm, hx, _⟩
 ·
  replace hcs : [Value.slice a len cap] = [Value.slice none 0 0] := hcs
  injection hcs with hcs
  injection hcs with _ h2 _
  subst h2
  simp
 ·
  replace hcs : [Value.slice a len cap] = [Value.slice (some a') len' cap'] := hcs
  injection hcs with hcs
  injection hcs with _ h2 _
  subst h2
  injection hx with hx _
  rw [hx] at hd
  have z := sized_slice hsz ht hd hu
  rw [hB] at z
  have hrb : reachBytes = 140737488351232 := by decide
  rw [hrb] at z
  simp only [List.length_map, List.length_range] at z
  exact Nat.le_trans (Nat.mul_le_mul_right _ (by omega)) z
theorem quv {cs : Array Value} (h : DataW.Trod enc Try.prog W 0 (fun _ => true) true 39 (.agg cs) d ps) : ∃ (A0 A1 A2 : Option Addr) (c0 c1 c2 : Nat) (s : S39), cs = #[.slice A0 s.f0.length c0, .slice A1 s.f1.length c1, .slice A2 s.f2.length c2, .int .i64 s.f3, .int .i64 s.f4] ∧
  s.f0.length ≤ c0 ∧ Kd.C (Kd.int .i64) W A0 s.f0.length s.f0 ∧ s.f1.length ≤ c1 ∧ Kd.C (Kd.int .i64) W A1 s.f1.length s.f1 ∧ s.f2.length ≤ c2 ∧ Kd.C (Kd.int .i64) W A2 s.f2.length s.f2 ∧ W39 s := by
 obtain ⟨fuel, hf⟩ := h
 obtain ⟨s, hk, hp⟩ := qqZ H enc W fuel _ _ hf
 obtain ⟨A0, c0, A1, c1, A2, c2, e, r⟩ := qnz hk
 exact ⟨A0, A1, A2, c0, c1, c2, s, Array.toList_inj.1 e, r.1, r.2.1, r.2.2.1, r.2.2.2.1, r.2.2.2.2.1, r.2.2.2.2.2, hp⟩
end
end Go.Proofs.Ytmhomdohhihlcaa.P
namespace Go.Proofs.Ytmhomdohhihlcaa.P
open Go.RowKit Go.Proofs.YtmhomdohhihlcaaW.PrintWords Go.Proofs.YtmhomdohhihlcaaW.PrintLast Go.Proofs.YtmhomdohhihlcaaW.PrintMore
attribute [local go_sem] qbT qbR qb7 qb6 qbH qbG qbS qbU
end Go.Proofs.Ytmhomdohhihlcaa.P
namespace Go.Proofs.Ytmhomdohhihlcaa.P
open Go.RowKit Go.Proofs.YtmhomdohhihlcaaW.PrintWords Go.Proofs.YtmhomdohhihlcaaW.PrintLast Go.Proofs.YtmhomdohhihlcaaW.PrintMore
attribute [local go_sem] qbT qbR qb7 qb6 qbH qbG qbS qbU
end Go.Proofs.Ytmhomdohhihlcaa.P
namespace Go.Proofs.Ytmhomdohhihlcaa.P
open Go.RowKit Go.Proofs.YtmhomdohhihlcaaW.PrintWords Go.Proofs.YtmhomdohhihlcaaW.PrintLast Go.Proofs.YtmhomdohhihlcaaW.PrintMore
attribute [local go_sem] qbT qbR qb7 qb6 qbH qbG qbS qbU
attribute [local go_sem high] qpG
end Go.Proofs.Ytmhomdohhihlcaa.P
namespace Go.Proofs.Ytmhomdohhihlcaa.P
open Go.RowKit Go.Proofs.YtmhomdohhihlcaaW.PrintWords Go.Proofs.YtmhomdohhihlcaaW.PrintLast Go.Proofs.YtmhomdohhihlcaaW.PrintMore
theorem qfQ (a b c : Int) : qat.f a b c = some (wi a b c) := by
 unfold qat.f wi
 by_cases h : b ≤ a
 ·
  rw [if_pos h]; simp [h]
 ·
  rw [if_neg h]; simp [h]
theorem qke (a b c : Int) : qaG.f a b c = some (wi a b c) := by
 unfold qaG.f wi
 by_cases h : b ≤ a
 ·
  rw [if_pos h]; simp [h]
 ·
  rw [if_neg h]; simp [h]
def sp (a b h : Int) : Bool := decide (0 ≤ a ∧ a ≤ b ∧ b ≤ h)
theorem wr1 (i n : Nat) (h : i < n) (hn : (n : Int) ≤ 9223372036854775807) : wrap64 ((i : Int) + 1) = ((i + 1 : Nat) : Int) := by unfold wrap64; omega
end Go.Proofs.Ytmhomdohhihlcaa.P
namespace Go.Proofs.Ytmhomdohhihlcaa.P
open Go.RowKit Go.Proofs.YtmhomdohhihlcaaW.PrintWords Go.Proofs.YtmhomdohhihlcaaW.PrintLast Go.Proofs.YtmhomdohhihlcaaW.PrintMore
theorem rdI (l : List Int) (i : Nat) (h : i < l.length) : rd l (i : Int) = l[i] := by simp [rd, List.getD_eq_getElem?_getD, List.getElem?_eq_getElem h]
def vR (l0 l1 l2 : List Int) (i : Nat) : Bool := wi (rd l0 i) 0 100000 && wi (rd l1 i) 0 1000 && wi (rd l2 i) 0 100
def aR (l0 l1 l2 : List Int) : Nat → Nat → Bool
 | 0, _ => true
 | d + 1, i => vR l0 l1 l2 i && aR l0 l1 l2 d (i + 1)
def isR (l0 l1 l2 : List Int) (a3 a4 : Int) : Bool :=
 (wi (l0.length : Int) 1 6 && decide (l1.length = l0.length) && decide (l2.length = l0.length) && wi a3 0 100000000 && wi a4 0 ((l0.length : Int) - 1)) && aR l0 l1 l2 l0.length 0
theorem qrh {l0 l1 l2 : List Int} : ∀ (d i : Nat), aR l0 l1 l2 d i = true → ∀ j, i ≤ j → j < i + d → vR l0 l1 l2 j = true
 | 0, i, _, j, h1, h2 => by omega
 | d + 1, i, h, j, h1, h2 => by
  rw [aR, Bool.and_eq_true] at h
  by_cases hj : j = i
  ·
   rw [hj]; exact h.1
  ·
   exact qrh d (i + 1) h.2 j (by omega) (by omega)
theorem qp8 {l0 l1 l2 : List Int} {a3 a4 : Int} (h : isR l0 l1 l2 a3 a4 = true) : okR l0 l1 l2 a4 ∧ wi a3 0 100000000 = true ∧ ∀ i, i < l0.length → vR l0 l1 l2 i = true := by
 unfold isR at h
 simp only [Bool.and_eq_true, decide_eq_true_eq] at h
 obtain ⟨⟨⟨⟨⟨h1, h2⟩, h3⟩, h4⟩, h5⟩, h6⟩ := h
 have g1 := qiB.1 h1
 have g5 := qiB.1 h5
 exact ⟨⟨by omega, by omega, h2, h3, by omega, by omega⟩, h4, fun i hi => qrh _ _ h6 i (by omega) (by omega)⟩
section
variable (l0 l1 l2 : List Int) (a3 a4 : Int)
theorem qnE : ∀ (d i : Nat) (b : Bool), i + d = l0.length → (b = true → l1.length = l0.length ∧ l2.length = l0.length ∧ l0.length ≤ 6) → Ev (fun k => qan.l0 k (l0.length : Int) b (i : Int) l0 l1 l2 a3 a4) (b && aR l0 l1 l2 d i) := by
 intro d
 induction d with
 | zero =>
  intro i b hi hb
  rw [aR, Bool.and_true]
  refine Ev.step (f := fun k => qan.j2 k (l0.length : Int) b (i : Int) false l0 l1 l2 a3 a4) (fun k => ?_) (Ev.step (f := fun _ => some b) (fun k => ?_) (Ev.now _))
  ·
   simp only [qan.l0]
   rw [decide_eq_false (by omega : ¬ (i : Int) < (l0.length : Int))]
   cases b <;> rfl
  ·
   simp [qan.j2]
 | succ d ih =>
  intro i b hi hb
  cases b with
  | false =>
   rw [Bool.false_and]
   refine Ev.step (f := fun k => qan.j2 k (l0.length : Int) false (i : Int) false l0 l1 l2 a3 a4) (fun k => ?_) (Ev.step (f := fun _ => some false) (fun k => ?_) (Ev.now _))
   ·
    simp [qan.l0]
   ·
    simp [qan.j2]
  | true =>
   obtain ⟨b1, b2, b3⟩ := hb rfl
   have hlt : i < l0.length := by omega
   rw [Bool.true_and, aR]
   refine Ev.step (f := fun k => qan.j2 k (l0.length : Int) true (i : Int) true l0 l1 l2 a3 a4) (fun k => ?_) ?_
   ·
    simp only [qan.l0]; rw [decide_eq_true (by omega : (i : Int) < (l0.length : Int))]
    rfl
   ·
    refine Ev.step (f := fun k => qan.l0 k (l0.length : Int) (vR l0 l1 l2 i) ((i + 1 : Nat) : Int) l0 l1 l2 a3 a4) (fun k => ?_) (ih (i + 1) _ (by omega) (fun _ => ⟨b1, b2, b3⟩)); have hw := wr1 i l0.length hlt (by omega); simp only [qan.j2, qfQ, Option.bind_some, hw]; rw [if_pos trivial, if_pos (by omega), if_pos (by omega)]; unfold vR
    cases h1 : wi (rd l0 i) 0 100000 with
    | false => simp
    | true =>
     rw [if_pos rfl, if_pos (by omega)]
     cases h2 : wi (rd l1 i) 0 1000 with
     | false => simp
     | true => rw [if_pos rfl, if_pos (by omega)]; simp
theorem qmY : Ev (fun k => qan.f k l0 l1 l2 a3 a4) (isR l0 l1 l2 a3 a4) := by
 have H : ∀ b : Bool, (b = true → l1.length = l0.length ∧ l2.length = l0.length ∧ l0.length ≤ 6) → Ev (fun k => qan.j0 k (l0.length : Int) b l0 l1 l2 a3 a4) (b && aR l0 l1 l2 l0.length 0) := fun b hb =>
  Ev.step (f := fun k => qan.l0 k (l0.length : Int) b ((0 : Nat) : Int) l0 l1 l2 a3 a4) (fun k => by simp [qan.j0]) (qnE l0 l1 l2 a3 a4 l0.length 0 b (by omega) hb)
 have HF := H false (fun h => by simp at h)
 unfold isR
 simp only [qan.f, qfQ, Option.bind_some]
 cases h1 : wi (l0.length : Int) 1 6 with
 | false => simpa using HF
 | true =>
  have g1 := qiB.1 h1
  have hw : wrap64 ((l0.length : Int) - 1) = (l0.length : Int) - 1 := by unfold wrap64; omega
  by_cases h2 : l1.length = l0.length
  ·
   by_cases h3 : l2.length = l0.length
   ·
    cases h4 : wi a3 0 100000000 with
    | false => simpa [h2, h3] using HF
    | true =>
     simp only [h2, h3, hw, if_true, decide_true, Bool.true_and, Bool.and_true]
     exact H _ (fun _ => ⟨h2, h3, by omega⟩)
   ·
    have h3' : ¬ (l2.length : Int) = (l0.length : Int) := by omega
    simpa [h2, h3, h3'] using HF
  ·
   have h2' : ¬ (l1.length : Int) = (l0.length : Int) := by omega
   simpa [h2, h2'] using HF
end
theorem qle (l0 l1 l2 : List Int) (a3 a4 : Int) : ∀ k, (∀ n b, qas.j0 k n b l0 l1 l2 a3 a4 = qan.j0 k n b l0 l1 l2 a3 a4) ∧ (∀ n b i, qas.l0 k n b i l0 l1 l2 a3 a4 = qan.l0 k n b i l0 l1 l2 a3 a4) ∧ (∀ n b i c, qas.j2 k n b i c l0 l1 l2 a3 a4 = qan.j2 k n b i c l0 l1 l2 a3 a4)
 | 0 => ⟨fun _ _ => rfl, fun _ _ _ => rfl, fun _ _ _ _ => rfl⟩
 | k + 1 => by
  obtain ⟨h1, h2, h3⟩ := qle l0 l1 l2 a3 a4 k
  refine ⟨fun n b => ?_, fun n b i => ?_, fun n b i c => ?_⟩
  ·
   simp only [qas.j0, qan.j0, h2]
  ·
   simp only [qas.l0, qan.l0, h3]
  ·
   simp only [qas.j2, qan.j2, h2, qke, qfQ]
theorem qsn (l0 l1 l2 : List Int) (a3 a4 : Int) : Ev (fun k => qas.f k l0 l1 l2 a3 a4) (isR l0 l1 l2 a3 a4) := by
 refine Ev.congr (fun k => ?_) (qmY l0 l1 l2 a3 a4)
 simp only [qas.f, qan.f, (qle l0 l1 l2 a3 a4 k).1, qke, qfQ]
section
variable (l0 l1 l2 : List Int) (a3 a4 : Int)
theorem qj8 (n : List Int) (m j : Nat) (x : Int) : (n.set j x).take m = (n.take m).set j x := List.take_set
theorem qi5 (n : List Int) (m i : Nat) (h : i < m) : rd (n.take m) (i : Int) = rd n (i : Int) := by
 simp [rd, List.getD_eq_getElem?_getD, List.getElem?_take, h]
theorem qqe (m : Nat) (hm : m ≤ 6) (h4 : 0 ≤ a4) : ∀ (j : Nat) (n : List Int) (t : Int), n.length = 6 → j ≤ m → Ev (fun k => qbl.l0 k t (n.take m) ((j : Int) - 1) l0 l1 l2 a3 a4) ((qeh a4 j n t).1.take m) := by
 intro j
 induction j with
 | zero =>
  intro n t hn hj
  refine Ev.step (f := fun _ => some (n.take m)) (fun k => ?_) (Ev.now _)
  simp only [qbl.l0]
  rw [if_neg (by omega)]
 | succ j ih =>
  intro n t hn hj
  have hl : (n.take m).length = m := by rw [List.length_take]; omega
  have e1 : ((j + 1 : Nat) : Int) - 1 = (j : Int) := by omega
  rw [e1, qeh]
  by_cases hq : a4 ≤ (j : Int)
  ·
   rw [if_pos hq]
   refine Ev.step (f := fun k => qbl.l0 k (wrap64 (t - mn (rd n j) t)) ((n.set j (wrap64 (rd n j - mn (rd n j) t))).take m) ((j : Int) - 1) l0 l1 l2 a3 a4) (fun k => ?_) (ih _ _ (by simpa using hn) (by omega))
   have hw : wrap64 ((j : Int) - 1) = (j : Int) - 1 := by unfold wrap64; omega
   simp only [qbl.l0]
   rw [if_pos (by omega), if_pos (by omega), if_pos (by omega), hw, qi5 n m j (by omega), qj8, Int.toNat_natCast]
  ·
   rw [if_neg hq]
   refine Ev.step (f := fun _ => some (n.take m)) (fun k => ?_) (Ev.now _)
   simp only [qbl.l0]
   rw [if_neg (by omega)]
theorem qqv (m : Nat) (hm : m ≤ 6) (h4 : 0 ≤ a4) (n : List Int) (t : Int) (hn : n.length = 6) : Ev (fun k => qbl.f k l0 l1 l2 a3 a4 (n.take m) t) ((qeh a4 m n t).1.take m) := by
 have hl : (n.take m).length = m := by rw [List.length_take]; omega
 refine Ev.congr (fun k => ?_) (qqe l0 l1 l2 a3 a4 m hm h4 m n t hn (by omega))
 have hw : wrap64 ((m : Int) - 1) = (m : Int) - 1 := by unfold wrap64; omega
 simp only [qbl.f, Option.bind_some, List.nil_append, hl, hw, List.length_nil]
 rw [if_pos (by omega)]
theorem qod (m : Nat) (hm : m ≤ 6) (h2 : l2.length = m) (n : List Int) (hn : n.length = 6) : ∀ (d i : Nat) (s : Int), i + d = m → Ev (fun k => qby.l0 k (n.take m) s (i : Int) l0 l1 l2 a3 a4) (((qdT n l2 m).drop i).foldl (fun s x => wrap64 (s + x)) s) := by
 have hl : (n.take m).length = m := by rw [List.length_take]; omega
 have hy : (qdT n l2 m).length = m := by simp [qdT]
 intro d
 induction d with
 | zero =>
  intro i s hi
  refine Ev.step (f := fun _ => some s) (fun k => ?_) ?_
  ·
   simp only [qby.l0, hl]
   rw [if_neg (by omega)]
  ·
   rw [List.drop_eq_nil_of_le (by omega)]
   exact Ev.now _
 | succ d ih =>
  intro i s hi
  have hlt : i < (qdT n l2 m).length := by omega
  rw [List.drop_eq_getElem_cons hlt, List.foldl_cons]
  have he : (qdT n l2 m)[i] = wrap64 (rd n i * rd l2 i) := by simp [qdT]
  rw [he]
  refine Ev.step (f := fun k => qby.l0 k (n.take m) (wrap64 (s + wrap64 (rd n i * rd l2 i))) ((i + 1 : Nat) : Int) l0 l1 l2 a3 a4) (fun k => ?_) (ih (i + 1) _ (by omega))
  have hw := wr1 i m (by omega) (by omega)
  simp only [qby.l0, hl, hw, h2]
  rw [if_pos (by omega), if_pos (by omega), if_pos (by omega), qi5 n m i (by omega)]
theorem qok (m : Nat) (hm : m ≤ 6) (h2 : l2.length = m) (n : List Int) (hn : n.length = 6) : Ev (fun k => qby.f k l0 l1 l2 a3 a4 (n.take m)) (sumW (qdT n l2 m)) := by
 have h := qod l0 l1 l2 a3 a4 m hm h2 n hn m 0 0 (by omega)
 exact h
theorem qqc (m : Nat) (h0 : 1 ≤ m) (hm : m ≤ 6) (h1 : l1.length = m) (n : List Int) (hn : n.length = 6) (r : Int) : ∀ (d i : Nat), i + d = m → Ev (fun k => qaR.l0 k (n.take m) r ((qdz ((m : Int) - 1) n l1 i).take m) (i : Int) l0 l1 l2 a3 a4)
  (((qdz ((m : Int) - 1) n l1 m).set 0 (wrap64 (rd (qdz ((m : Int) - 1) n l1 m) 0 + r))).take m) := by
 have hl : (n.take m).length = m := by rw [List.length_take]; omega
 intro d
 induction d with
 | zero =>
  intro i hi
  obtain rfl : i = m := by omega
  have hy : ((qdz ((i : Int) - 1) n l1 i).take i).length = i := by rw [List.length_take, qgR]; omega
  have hr := qi5 (qdz ((i : Int) - 1) n l1 i) i 0 (by omega)
  refine Ev.step (f := fun _ => some (((qdz ((i : Int) - 1) n l1 i).set 0 (wrap64 (rd (qdz ((i : Int) - 1) n l1 i) 0 + r))).take i)) (fun k => ?_) (Ev.now _)
  simp only [qaR.l0, hl, hy]
  rw [if_neg (by omega), if_pos (by omega), qj8]
  have hr' : rd ((qdz ((i : Int) - 1) n l1 i).take i) 0 = rd (qdz ((i : Int) - 1) n l1 i) 0 := hr
  rw [hr']
  rfl
 | succ d ih =>
  intro i hi
  have hy : ((qdz ((m : Int) - 1) n l1 i).take m).length = m := by rw [List.length_take, qgR]; omega
  refine Ev.step (f := fun k => qaR.l0 k (n.take m) r ((qdz ((m : Int) - 1) n l1 (i + 1)).take m) ((i + 1 : Nat) : Int) l0 l1 l2 a3 a4) (fun k => ?_) (ih (i + 1) (by omega))
  have hw := wr1 i m (by omega) (by omega)
  have hw2 : wrap64 ((m : Int) - 1) = (m : Int) - 1 := by unfold wrap64; omega
  have hmn : ∃ q : Nat, mn ((i : Int) + 1) ((m : Int) - 1) = (q : Int) ∧ q < m := by
   refine ⟨(mn ((i : Int) + 1) ((m : Int) - 1)).toNat, ?_, ?_⟩ <;> unfold mn <;> split <;> omega
  obtain ⟨q, hq, hqm⟩ := hmn
  have e1 : ((i + 1 : Nat) : Int) = (i : Int) + 1 := by omega
  simp only [qaR.l0, hl, hy, hw, hw2, h1]
  rw [e1, hq, if_pos (by omega), if_pos (by omega), if_pos (by omega), if_pos (by omega), if_pos (by omega), qi5 _ m q hqm, qi5 n m i (by omega)]
  conv => rhs; rw [qdz, hq, qj8]
theorem qqB (m : Nat) (h0 : 1 ≤ m) (hm : m ≤ 6) (h1 : l1.length = m) (n : List Int) (hn : n.length = 6) (r : Int) : Ev (fun k => qaR.f k l0 l1 l2 a3 a4 (n.take m) r)
  (((qdz ((m : Int) - 1) n l1 m).set 0 (wrap64 (rd (qdz ((m : Int) - 1) n l1 m) 0 + r))).take m) := by
 have hl : (n.take m).length = m := by rw [List.length_take]; omega
 refine Ev.congr (fun k => ?_) (qqc l0 l1 l2 a3 a4 m h0 hm h1 n hn r m 0 (by omega))
 simp only [qaR.f, hl]
 rw [if_pos (by omega), if_pos (by omega)]
 have he : List.replicate ((m : Int)).toNat (0 : Int) = (qdz ((m : Int) - 1) n l1 0).take m := by
  rw [Int.toNat_natCast, qdz]
  rcases (by omega : m = 1 ∨ m = 2 ∨ m = 3 ∨ m = 4 ∨ m = 5 ∨ m = 6) with h | h | h | h | h | h <;> subst h <;> rfl
 rw [he]
 rfl
end
def plL (m : Nat) (mesh : Int) (keep spawn tk rc : List Int) : Nat → Nat → List Int → List Int → List Int
 | 0, _, _, acc => acc
 | d + 1, i, n, acc => plL m mesh keep spawn tk rc d (i + 1) (qe8 m mesh keep spawn n (rd tk i) (rd rc i)).2 (acc ++ [(qe8 m mesh keep spawn n (rd tk i) (rd rc i)).1])
theorem qoq (m : Nat) (mesh : Int) (keep spawn tk rc : List Int) : ∀ (d i : Nat) (n acc : List Int), (plL m mesh keep spawn tk rc d i n acc).length = acc.length + d
 | 0, _, _, _ => rfl
 | d + 1, i, n, acc => by rw [plL, qoq m mesh keep spawn tk rc d]; simp; omega
theorem six {l : List Int} (h : l.length = 6) : [rd l 0, rd l 1, rd l 2, rd l 3, rd l 4, rd l 5] = l := by
 rcases l with _ | ⟨a, _ | ⟨b, _ | ⟨c, _ | ⟨d, _ | ⟨e, _ | ⟨f, _ | ⟨g, l⟩⟩⟩⟩⟩⟩⟩ <;> simp at h
 rfl
theorem qq8 {l : List Int} (h : l.length ≤ 6) : [rd l 0, rd l 1, rd l 2, rd l 3, rd l 4, rd l 5].take l.length = l := by
 rcases l with _ | ⟨a, _ | ⟨b, _ | ⟨c, _ | ⟨d, _ | ⟨e, _ | ⟨f, _ | ⟨g, l⟩⟩⟩⟩⟩⟩⟩ <;> simp at h
 all_goals rfl
section
variable (l0 l1 l2 : List Int) (a3 a4 : Int) (ho : okR l0 l1 l2 a4) (tk rc : List Int) (hlen : rc.length = tk.length) (h10 : tk.length ≤ 10)
include ho hlen h10
theorem qna : ∀ (d i : Nat) (n acc : List Int), n.length = 6 → acc.length = i → i + d = tk.length → Ev (fun k => qaw.l1 k tk rc acc (tk.length : Int) (i : Int) l0 l1 l2 a3 a4 (rd n 0) (rd n 1) (rd n 2) (rd n 3) (rd n 4) (rd n 5)) (plL l0.length a4 l1 l2 tk rc d i n acc, 0) := by
 intro d
 induction d with
 | zero =>
  intro i n acc hn ha hi
  refine Ev.step (f := fun _ => some (acc, 0)) (fun k => ?_) (Ev.now _)
  simp only [qaw.l1]
  rw [if_neg (by omega), if_pos (by omega), if_pos (by omega), Int.toNat_natCast, List.take_length]
 | succ d ih =>
  intro i n acc hn ha hi
  have h6 := qm1 l0.length a4 l1 l2 n (rd tk i) (rd rc i)
  refine Ev.step (f := fun k => qaw.l1 k tk rc (acc ++ [(qe8 l0.length a4 l1 l2 n (rd tk i) (rd rc i)).1]) (tk.length : Int) ((i + 1 : Nat) : Int) l0 l1 l2 a3 a4 (rd (qe8 l0.length a4 l1 l2 n (rd tk i) (rd rc i)).2 0) (rd (qe8 l0.length a4 l1 l2 n (rd tk i) (rd rc i)).2 1) (rd (qe8 l0.length a4 l1 l2 n (rd tk i) (rd rc i)).2 2) (rd (qe8 l0.length a4 l1 l2 n (rd tk i) (rd rc i)).2 3) (rd (qe8 l0.length a4 l1 l2 n (rd tk i) (rd rc i)).2 4) (rd (qe8 l0.length a4 l1 l2 n (rd tk i) (rd rc i)).2 5)) (fun k => ?_) (ih (i + 1) _ _ h6 (by simp; omega) (by omega))
  have hw := wr1 i tk.length (by omega) (by omega)
  simp only [qaw.l1, hw, qcG.f, six hn]
  rw [if_pos (by omega), if_pos (by omega), if_pos (by omega), if_pos (by omega), if_pos ho, Option.bind_some, if_pos (by omega)]
def tR (tk rc : List Int) : Nat → Nat → Bool
 | 0, _ => true
 | d + 1, i => (wi (rd tk i) 0 100000000 && wi (rd rc i) 0 100000) && tR tk rc d (i + 1)
omit ho hlen h10 in
theorem first_is (h6 : l0.length ≤ 6) : qci.f l0 l1 l2 a3 a4 = some (rd l0 0, rd l0 1, rd l0 2, rd l0 3, rd l0 4, rd l0 5) := by
 unfold qci.f; rw [if_pos h6]
def plV (l0 l1 l2 : List Int) (a4 : Int) (tk rc : List Int) : List Int := plL l0.length a4 l1 l2 tk rc tk.length 0 [rd l0 0, rd l0 1, rd l0 2, rd l0 3, rd l0 4, rd l0 5] []
def qgq (l0 l1 l2 : List Int) (a4 : Int) (tk rc : List Int) (b : Bool) : List Int × Int := if b = true then (plV l0 l1 l2 a4 tk rc, 0) else ([], 92)
theorem qiZ (b : Bool) (i : Int) : Ev (fun k => qaw.j2 k tk rc b i false l0 l1 l2 a3 a4) (qgq l0 l1 l2 a4 tk rc b) := by
 cases b with
 | false =>
  refine Ev.step (f := fun _ => some ([], 92)) (fun k => ?_) (Ev.now _)
  simp [qaw.j2]
 | true =>
  refine Ev.step (f := fun k => qaw.l1 k tk rc [] (tk.length : Int) ((0 : Nat) : Int) l0 l1 l2 a3 a4 (rd l0 0) (rd l0 1) (rd l0 2) (rd l0 3) (rd l0 4) (rd l0 5)) (fun k => ?_) (qna l0 l1 l2 a3 a4 ho tk rc hlen h10 tk.length 0 [rd l0 0, rd l0 1, rd l0 2, rd l0 3, rd l0 4, rd l0 5] [] rfl rfl (by omega))
  simp only [qaw.j2]
  rw [if_neg (by decide), if_pos trivial, first_is l0 l1 l2 a3 a4 ho.2.1]
  rfl
theorem qnd : ∀ (d i : Nat) (b : Bool), i + d = tk.length → Ev (fun k => qaw.l0 k tk rc b (i : Int) l0 l1 l2 a3 a4) (qgq l0 l1 l2 a4 tk rc (b && tR tk rc d i)) := by
 intro d
 induction d with
 | zero =>
  intro i b hi
  rw [tR, Bool.and_true]
  refine Ev.step (f := fun k => qaw.j2 k tk rc b (i : Int) false l0 l1 l2 a3 a4) (fun k => ?_) (qiZ l0 l1 l2 a3 a4 ho tk rc hlen h10 b i)
  simp only [qaw.l0]
  rw [decide_eq_false (by omega : ¬ (i : Int) < (tk.length : Int))]
  cases b <;> rfl
 | succ d ih =>
  intro i b hi
  cases b with
  | false =>
   rw [Bool.false_and]
   refine Ev.step (f := fun k => qaw.j2 k tk rc false (i : Int) false l0 l1 l2 a3 a4) (fun k => ?_) (qiZ l0 l1 l2 a3 a4 ho tk rc hlen h10 false i)
   simp [qaw.l0]
  | true =>
   have hlt : i < tk.length := by omega
   rw [Bool.true_and, tR]
   refine Ev.step (f := fun k => qaw.j2 k tk rc true (i : Int) true l0 l1 l2 a3 a4) (fun k => ?_) ?_
   ·
    simp only [qaw.l0]; rw [decide_eq_true (by omega : (i : Int) < (tk.length : Int))]
    rfl
   ·
    refine Ev.step (f := fun k => qaw.l0 k tk rc (wi (rd tk i) 0 100000000 && wi (rd rc i) 0 100000) ((i + 1 : Nat) : Int) l0 l1 l2 a3 a4) (fun k => ?_) (ih (i + 1) _ (by omega)); have hw := wr1 i tk.length hlt (by omega); simp only [qaw.j2, qfQ, Option.bind_some, hw]; rw [if_pos trivial, if_pos (by omega), if_pos (by omega)]
    cases h1 : wi (rd tk i) 0 100000000 with
    | false => simp
    | true =>
     rw [if_pos rfl, if_pos (by omega)]
     simp
theorem qoa : ∀ (d i : Nat) (n acc : List Int), n.length = 6 → acc.length = i → i + d = tk.length → Ev (fun k => qaF.l0 k tk rc acc (n.take l0.length) (i : Int) l0 l1 l2 a3 a4) (plL l0.length a4 l1 l2 tk rc d i n acc) := by
 obtain ⟨o1, o2, o3, o4, o5, o6⟩ := ho
 intro d
 induction d with
 | zero =>
  intro i n acc hn ha hi
  refine Ev.step (f := fun _ => some acc) (fun k => ?_) (Ev.now _)
  simp only [qaF.l0]
  rw [if_neg (by omega)]
 | succ d ih =>
  intro i n acc hn ha hi
  have h6 := qm1 l0.length a4 l1 l2 n (rd tk i) (rd rc i)
  have hc6 : (qeh a4 l0.length n (rd tk i)).1.length = 6 := by rw [qk9]; exact hn
  refine Ev.step (f := fun k => (qbl.f k l0 l1 l2 a3 a4 (n.take l0.length) (rd tk i)).bind fun t450 => ((qby.f k l0 l1 l2 a3 a4 t450).bind fun t453 => ((qaR.f k l0 l1 l2 a3 a4 t450 (rd rc i)).bind fun t458 => (qaF.l0 k tk rc (acc ++ [t453]) t458 ((i + 1 : Nat) : Int) l0 l1 l2 a3 a4)))) (fun k => ?_) ?_
  ·
   have hw := wr1 i tk.length (by omega) (by omega)
   simp only [qaF.l0, hw]
   have g1 : (i : Int) < (tk.length : Int) := by omega
   have g2 : (0 : Int) ≤ (i : Int) := by omega
   have g3 : acc.length < 17592186044416 := by omega
   have g4 : (i : Int) < (rc.length : Int) := by omega
   simp only [if_pos g1, if_pos g2, if_pos g3, if_pos g4]
  ·
   refine Ev.bind (qqv l0 l1 l2 a3 a4 l0.length o2 o5 n (rd tk i) hn) (Ev.bind (qok l0 l1 l2 a3 a4 l0.length o2 o4 _ hc6) (Ev.bind (qqB l0 l1 l2 a3 a4 l0.length o1 o2 o3 _ hc6 (rd rc i)) ?_))
   exact ih (i + 1) _ _ h6 (by simp; omega) (by omega)
theorem qoe : Ev (fun k => qaF.f k l0 l1 l2 a3 a4 tk rc) (plV l0 l1 l2 a4 tk rc) := by
 have h := qoa l0 l1 l2 a3 a4 ho tk rc hlen h10 tk.length 0 [rd l0 0, rd l0 1, rd l0 2, rd l0 3, rd l0 4, rd l0 5] [] rfl rfl (by omega)
 rw [qq8 ho.2.1] at h
 exact h
end
theorem qpw (l : List Int) (hi' : Int) (hn : l.length ≤ 9223372036854775807) : ∀ (d i : Nat) (b : Bool), i + d = l.length → Ev (fun k => qaK.l0 k l hi' b (i : Int)) (b && (l.drop i).all (fun x => wi x 0 hi')) := by
 intro d
 induction d with
 | zero =>
  intro i b hi
  rw [List.drop_eq_nil_of_le (by omega), List.all_nil, Bool.and_true]
  refine Ev.step (f := fun _ => some b) (fun k => ?_) (Ev.now _)
  simp only [qaK.l0]
  rw [if_neg (by omega : ¬ (i : Int) < (l.length : Int))]
  simp
 | succ d ih =>
  intro i b hi
  cases b with
  | false =>
   rw [Bool.false_and]
   refine Ev.step (f := fun _ => some false) (fun k => ?_) (Ev.now _)
   simp [qaK.l0]
  | true =>
   have hlt : i < l.length := by omega
   rw [List.drop_eq_getElem_cons hlt, List.all_cons, Bool.true_and]
   refine Ev.step (f := fun k => qaK.l0 k l hi' (wi l[i] 0 hi') ((i + 1 : Nat) : Int)) (fun k => ?_) (ih (i + 1) _ (by omega))
   have hw := wr1 i l.length hlt (by omega)
   simp only [qaK.l0, qke, Option.bind_some, hw, rdI l i hlt]
   rw [if_pos trivial, if_pos (by omega), if_pos (by omega)]
theorem qlb (l : List Int) (a hi' : Int) (hn : l.length ≤ 9223372036854775807) : Ev (fun k => qaK.f k l a hi') (((l.length : Int) == a) && l.all (fun x => wi x 0 hi')) := qpw l hi' hn l.length 0 _ (by omega)
theorem quk (tk rc : List Int) (h : rc.length = tk.length) : ∀ (d i : Nat), i + d = tk.length → tR tk rc d i = ((tk.drop i).all (fun x => wi x 0 100000000) && (rc.drop i).all (fun x => wi x 0 100000)) := by
 intro d
 induction d with
 | zero => intro i hi; rw [List.drop_eq_nil_of_le (by omega), List.drop_eq_nil_of_le (by omega), tR]; rfl
 | succ d ih =>
  intro i hi
  have h1 : i < tk.length := by omega
  have h2 : i < rc.length := by omega
  rw [List.drop_eq_getElem_cons h1, List.drop_eq_getElem_cons h2, List.all_cons, List.all_cons, tR, ih (i + 1) (by omega), rdI tk i h1, rdI rc i h2]
  cases wi tk[i] 0 100000000 <;> cases wi rc[i] 0 100000 <;> simp
theorem qsB (l : List Int) (hn : l.length ≤ 9223372036854775807) : ∀ (d i : Nat), i + d = l.length → Ev (fun k => qbj.l0 k l l (i : Int)) true := by
 intro d
 induction d with
 | zero =>
  intro i hi
  refine Ev.step (f := fun _ => some true) (fun k => ?_) (Ev.now _)
  simp only [qbj.l0]
  rw [if_neg (by omega)]
 | succ d ih =>
  intro i hi
  refine Ev.step (f := fun k => qbj.l0 k l l ((i + 1 : Nat) : Int)) (fun k => ?_) (ih (i + 1) (by omega))
  have hw := wr1 i l.length (by omega) (by omega)
  simp only [qbj.l0, hw]
  rw [if_pos (by omega), if_pos (by omega), if_pos (by omega), if_pos trivial]
theorem qsh (l : List Int) (hn : l.length ≤ 9223372036854775807) : Ev (fun k => qbj.f k l l) true := by
 refine Ev.congr (fun k => ?_) (qsB l hn l.length 0 (by omega))
 simp [qbj.f]
def plOk (s : S39) (tk rc : List Int) : Bool := isR s.f0 s.f1 s.f2 s.f3 s.f4 && wi (tk.length : Int) 1 10 && ((rc.length : Int) == (tk.length : Int)) && (tk.all (fun x => wi x 0 100000000) && rc.all (fun x => wi x 0 100000))
theorem qmi (l0 l1 l2 : List Int) (a3 a4 : Int) (tk rc : List Int) : Ev (fun k => qaw.j0 k tk rc false l0 l1 l2 a3 a4) ([], 92) := by
 refine Ev.step (f := fun k => qaw.l0 k tk rc false 0 l0 l1 l2 a3 a4) (fun k => by simp [qaw.j0]) ?_
 refine Ev.step (f := fun k => qaw.j2 k tk rc false 0 false l0 l1 l2 a3 a4) (fun k => by simp [qaw.l0]) ?_
 refine Ev.step (f := fun _ => some ([], 92)) (fun k => ?_) (Ev.now _)
 simp [qaw.j2]
theorem qm7 (s : S39) (tk rc : List Int) : Ev (fun k => qaw.f k s.f0 s.f1 s.f2 s.f3 s.f4 tk rc) (qgq s.f0 s.f1 s.f2 s.f4 tk rc (plOk s tk rc)) := by
 refine Ev.bind (qmY s.f0 s.f1 s.f2 s.f3 s.f4) ?_
 have HF := qmi s.f0 s.f1 s.f2 s.f3 s.f4 tk rc
 unfold plOk
 simp only [qfQ, Option.bind_some]
 cases h1 : isR s.f0 s.f1 s.f2 s.f3 s.f4 with
 | false => simpa [qgq] using HF
 | true =>
  cases h2 : wi (tk.length : Int) 1 10 with
  | false => simpa [qgq] using HF
  | true =>
   by_cases h3 : rc.length = tk.length
   ·
    have g2 := qiB.1 h2
    have e3 : ((rc.length : Int) == (tk.length : Int)) = true := by simp [h3]
    rw [e3]; have h := qnd s.f0 s.f1 s.f2 s.f3 s.f4 (qp8 h1).1 tk rc h3 (by omega) tk.length 0 true (by omega); rw [quk tk rc h3 tk.length 0 (by omega)] at h; refine Ev.step (f := fun k => qaw.l0 k tk rc true ((0 : Nat) : Int) s.f0 s.f1 s.f2 s.f3 s.f4) (fun k => ?_) h
    simp [qaw.j0]
   ·
    have e3 : ((rc.length : Int) == (tk.length : Int)) = false := by simp; omega
    rw [e3]
    simpa [qgq] using HF
theorem qn9 (s : S39) (tk rc : List Int) (hn1 : tk.length ≤ 9223372036854775807) (hn2 : rc.length ≤ 9223372036854775807) : Ev (fun k => qdo.f k s.f0 s.f1 s.f2 s.f3 s.f4 tk rc) (qgq s.f0 s.f1 s.f2 s.f4 tk rc (plOk s tk rc)) := by
 refine Ev.bind (qsn s.f0 s.f1 s.f2 s.f3 s.f4) ?_
 have HF : Ev (fun _ => some (([], 92) : List Int × Int)) ([], 92) := Ev.now _
 unfold plOk
 simp only [qke, Option.bind_some]
 cases h1 : isR s.f0 s.f1 s.f2 s.f3 s.f4 with
 | false => simpa [qgq] using HF
 | true =>
  cases h2 : wi (tk.length : Int) 1 10 with
  | false => simpa [qgq] using HF
  | true =>
   simp only [if_true]
   refine Ev.bind (qlb tk (tk.length : Int) 100000000 hn1) ?_
   have e0 : ((tk.length : Int) == (tk.length : Int)) = true := by simp
   rw [e0]
   cases h4 : tk.all (fun x => wi x 0 100000000) with
   | false => simpa [qgq] using HF
   | true =>
    simp only [Bool.and_self, Bool.true_and, if_true]; refine Ev.bind (qlb rc (tk.length : Int) 100000 hn2) ?_
    cases h5 : (((rc.length : Int) == (tk.length : Int)) && rc.all (fun x => wi x 0 100000)) with
    | false => simpa [qgq] using HF
    | true =>
     have g2 := qiB.1 h2
     have h3 : rc.length = tk.length := by
      rw [Bool.and_eq_true] at h5; have := h5.1
      simp at this
      omega
     simp only [if_true, qgq]; refine Ev.bind (qoe s.f0 s.f1 s.f2 s.f3 s.f4 (qp8 h1).1 tk rc h3 (by omega)) (Ev.now _)
theorem StockPlays (s : S39) (tk rc : List Int) (hs : W39 s) (hl1 : tk.length * 8 ≤ 140737488351232) (hp1 : WL tk) (hl2 : rc.length * 8 ≤ 140737488351232) (hp2 : WL rc) : ∃ k, qee.f k s.f0 s.f1 s.f2 s.f3 s.f4 tk rc = some true := by
 refine Ev.rounds (Ev.bind (qm7 s tk rc) (Ev.bind (qn9 s tk rc (by omega) (by omega)) (Ev.bind (qsh _ ?_) ?_)))
 ·
  unfold qgq plV
  split
  ·
   rw [qoq]; simp; omega
  ·
   simp
 ·
  refine ⟨0, fun k _ => ?_⟩
  simp [qcW.f]
end Go.Proofs.Ytmhomdohhihlcaa.P
