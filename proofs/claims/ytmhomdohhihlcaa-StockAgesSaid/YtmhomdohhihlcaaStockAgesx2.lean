/- What the statement StockAges leans on, part 3 of 6: contracts of the program's functions; conditions: none. -/
import Derived.WalkMore
import Derived.StillTailTactics
import Derived.Lib.SliceRun
import Derived.Deep.RegionLaw
import Derived.Deep.RegionHeld3
import Derived.Deep.RegionWith
import Derived.BigRegion
import Derived.Outline
import Derived.Test.YtmhomdohhihlcaaStockAgesx0
import Derived.Test.YtmhomdohhihlcaaStockAgesx1
set_option linter.unusedVariables false
set_option linter.unusedSimpArgs false
set_option linter.constructorNameAsVariable false
namespace Go.Proofs.Ytmhomdohhihlcaa.P
open Go.RowKit Go.Proofs.YtmhomdohhihlcaaW.PrintWords Go.Proofs.YtmhomdohhihlcaaW.PrintLast Go.Proofs.YtmhomdohhihlcaaW.PrintMore
attribute [local go_sem] qb7 qb6 qcr qcq qbR qbS qb8 qb4
def qaW.l0 : Nat → List (List (S25)) → Int → List Int → List Int → Int → Int → Option (Int)
 | 0, _, _, _, _, _, _ => none
 | k + 1, x2, x3, x9, x12, x13, x14 => if x14 < x13 then (if 0 ≤ x14 then (if x14 < (x12.length : Int) then (if x14 < (x2.length : Int) then (if 0 ≤ x3 then (if x3 < ((qcU x2 x14).length : Int) then ((qev.f ((qby (qcU x2 x14) x3).f0) ((qby (qcU x2 x14) x3).f1)).bind fun t137 => (if x9.length < 17592186044416 then (qaW.l0 k x2 x3 (x9 ++ [wrap64 ((rd x12 x14) * t137)]) x12 x13 (wrap64 (x14 + 1))) else (none))) else (none)) else (none)) else (none)) else (none)) else (none)) else ((qa5.f k x9).bind fun t141 => (some t141))
def qaW.f (k : Nat) (a0_0 : Int) (l1 : List Int) (l2 : List (List (S25))) (a3 : Int) : Option (Int) := qaW.l0 k l2 a3 ([] : List Int) l1 (l1.length : Int) 0
theorem qaW.mono_l : ∀ k, (∀ y0 y1 y2 y3 y4 y5, LeO (qaW.l0 k y0 y1 y2 y3 y4 y5) (qaW.l0 (k + 1) y0 y1 y2 y3 y4 y5))
 | 0 => fun _ _ _ _ _ _ r h => by simp [qaW.l0] at h
 | k + 1 => by
  have ih0 := qaW.mono_l k
  intro y0 y1 y2 y3 y4 y5
  unfold qaW.l0
  repeat' first
  | (with_reducible exact ih0 _ _ _ _ _ _)
  | (with_reducible exact qa5.mono _ _)
  | (with_reducible exact LeO.refl _)
  | (with_reducible exact LeO.none _)
  | (with_reducible refine LeO.ite ?_ ?_)
  | (with_reducible refine LeO.bind ?_ (fun _ => ?_))
  | exact ih0 _ _ _ _ _ _
  | exact qa5.mono _ _
  | exact LeO.none _
  | refine LeO.ite ?_ ?_
  | refine LeO.bind ?_ (fun _ => ?_)
theorem qaW.mono : ∀ a0 a1 a2 a3 k, LeO (qaW.f k a0 a1 a2 a3) (qaW.f (k + 1) a0 a1 a2 a3) := by
 intro a0 a1 a2 a3 k
 have ih0 := qaW.mono_l k
 unfold qaW.f
 repeat' first
   | (with_reducible exact ih0 _ _ _ _ _ _)
   | (with_reducible exact qa5.mono _ _)
   | (with_reducible exact LeO.refl _)
   | (with_reducible exact LeO.none _)
   | (with_reducible refine LeO.ite ?_ ?_)
   | (with_reducible refine LeO.bind ?_ (fun _ => ?_))
   | exact ih0 _ _ _ _ _ _
   | exact qa5.mono _ _
   | exact LeO.none _
   | refine LeO.ite ?_ ?_
   | refine LeO.bind ?_ (fun _ => ?_)
def qaW.T5 : Bool × List (List Nat × List Nat) := (true, [([], []), ([], []), ([], []), ([2], [2]), ([], []), ([], []), ([4, 5], [4, 5]), ([6], [6]), ([], []), ([7, 8], [7, 8]), ([9], [9]), ([3, 10], [3, 10]), ([1, 11], [1, 11]), ([12], [12]), ([0, 13, 11], [0, 13]), ([14, 14, 0, 1, 2, 3, 4, 5, 6, 7, 8, 9, 10, 11, 12, 13, 14], [0, 14])])
def qaW.B5 : List Nat := [0, 0, 0, 4, 0, 0, 48, 112, 0, 496, 1008, 2044, 4094, 8190, 16383, 32767]
theorem qaW.tab5 : rtab .any (qjY Try.f71 5) = qaW.T5 := by kernel_rfl
theorem qaW.bits5 : qfx qaW.T5.2 qaW.B5 = true := by kernel_rfl
set_option maxHeartbeats 8000000 in
set_option maxRecDepth 100000 in
theorem qaW.calls (k : Nat) (a0_0 : Int) (A1 : Option Addr) (c1 : Nat) (l1 : List Int) (A2 : Option Addr) (c2 : Nat) (l2 : List (List (S25))) (a3 : Int) (r : Int) (w : World) (hr1 : Kd.C (Kd.int .i64) w A1 l1.length l1) (hc1 : l1.length ≤ c1) (hr2 : Kd.C (Kd.slice 25 k25) w A2 l2.length l2) (hc2 : l2.length ≤ c2) (h : qaW.f k a0_0 l1 l2 a3 = some r) :
  Calls Try.prog 71 #[.agg #[.func (.func 69) #[] #[]], .slice A1 l1.length c1, .slice A2 l2.length c2, .int .i64 a3] w fun e w' => e = .returned (.int .i64 r) ∧ Below w.heap.size w w' := by
 have qut := Try.underlying104
 have hu25 := Try.underlying25
 have HR1 := qaa.mk hr1
 have HC1 := qaa.mk hc1
 clear hr1 hc1
 have HR2 := qaa.mk hr2
 have HC2 := qaa.mk hc2
 clear hr2 hc2
 have HB := qaa.mk (Below.refl w.heap.size w)
 have H : (qaW.l0 k l2 a3 ([] : List Int) l1 (l1.length : Int) 0) = some r := h
 clear h
 have H' := qaa.mk H
 clear H
 go_enter Try.func71, Try.ntmps71
 go_wp2_with (first | ((with_reducible refine qaN (N := 4) rfl ?_); refine qa9 ?hg (N := 4) ?hd (cs := #[.func (.func 69) #[] #[]]) (t := 104) ?hr ?_; (case hd => rfl); (case hg => rfl); (case hr => first | (go_simp; done) | (go_simp; rfl)); intro qgs hg w5 hbox hb; have n0_ := qaa.mk (qar (by repeat (first | (with_reducible first | exact HB.out | apply qaf | apply qad | apply qah) | exact HB.out)) hb); have n1_ := qaa.mk (hbox); have n2_ := qaa.mk ((by rw [hg]; exact (qam (by repeat (first | (with_reducible first | exact HB.out | apply qaf | apply qad | apply qah) | exact HB.out))) : w.heap.size ≤ qgs)); have n3_ := qaa.mk ((by rw [hg]; exact (qam (by repeat (first | (with_reducible first | exact HB.out | apply qaf | apply qad | apply qah) | exact HB.out))) : w.heap.size ≤ qgs)); clear HB; have HB := n0_; have qcK := n1_; have quu := n2_; have qgt := n3_; clear n0_ n1_ n2_ n3_; clear hb hbox hg))
 go_loopg [9, 14] k (fun kq v9 v14 w' => ∃ (x9_1 : List Int) (qbA : Int), v14 = .int .i64 qbA ∧ qaa (qaW.l0 kq l2 a3 x9_1 l1 (l1.length : Int) qbA = some r) ∧ qaa (kq ≤ k) ∧ qaa (Kd.R (Kd.int .i64) 3 w' w.heap.size (fun _ => True) v9 x9_1) ∧ qaa (w'.heap[qgs]? = some (.cells #[.func (.func 69) #[] #[]] 104 (0, 0))) ∧ qaa (Below w.heap.size w w'))
 case atStart => exact ⟨(([] : List Int)), (0), (by first | rfl | (simp; done) | (simp [*]; done)), H', ⟨Nat.le_refl _⟩, ⟨by first | exact Kd.R_nil _ _ _ _ _ | exact Kd.N_nil _ _ _ _ _ | exact Kd.V_nil _ _ _ _ _ | exact Kd.Q_nil _ _ _ _ _ | exact Kd.S_nil _ _ _ _ _⟩, ⟨by (with_reducible repeat (first | refine qac ?_ _ | refine qae ?_ | refine qab ?_ _)); exact qcK.out⟩, ⟨by repeat (first | (with_reducible first | exact HB.out | apply qaf | apply qad | apply qah | refine qag ?_ qgt.out) | exact HB.out)⟩⟩
 case round =>
  clear H'
  try clear c1
  try clear c2
  try clear p2
  obtain ⟨x9_1, qbA, rfl, HA, HK1, HO_9, qcK, HB⟩ := hrel
  cases gk with
  | zero => exact absurd HA.out (by simp [qaW.l0])
  | succ k1 =>
   have H := HA.out
   clear HA
   simp only [qaW.l0] at H
   by_cases c6 : qbA < (l1.length : Int)
   ·
    rw [if_pos c6] at H; have c6b0 : decide (qbA < (l1.length : Int)) = true := decide_eq_true c6; clear c6
    by_cases c7 : 0 ≤ qbA
    ·
     rw [if_pos c7] at H; have c7b0 : decide (0 ≤ qbA) = true := decide_eq_true c7; clear c7
     by_cases c8 : qbA < (l1.length : Int)
     ·
      rw [if_pos c8] at H; have c8b0 : decide (qbA < (l1.length : Int)) = true := decide_eq_true c8; clear c8
      by_cases c9 : qbA < (l2.length : Int)
      ·
       rw [if_pos c9] at H; have c9b0 : decide (qbA < (l2.length : Int)) = true := decide_eq_true c9; clear c9
       by_cases c10 : 0 ≤ a3
       ·
        rw [if_pos c10] at H; have c10b0 : decide (0 ≤ a3) = true := decide_eq_true c10; clear c10
        by_cases c11 : a3 < ((qcU l2 qbA).length : Int)
        ·
         rw [if_pos c11] at H; have c11b0 : decide (a3 < ((qcU l2 qbA).length : Int)) = true := decide_eq_true c11; clear c11; replace H := Option.bind_eq_some_iff.mp H; obtain ⟨t137, A120, H⟩ := H; replace H : (if x9_1.length < 17592186044416 then (qaW.l0 k1 l2 a3 (x9_1 ++ [wrap64 ((rd l1 qbA) * t137)]) l1 (l1.length : Int) (wrap64 (qbA + 1))) else (none)) = some r := H; have A12 := qaa.mk A120; clear A120
         by_cases c13 : x9_1.length < 17592186044416
         ·
          rw [if_pos c13] at H; have qph := qaa.mk c13; clear c13; obtain ⟨y138, qhg⟩ : ∃ y_ : List Int, y_ = (x9_1 ++ [wrap64 ((rd l1 qbA) * t137)]) := ⟨_, rfl⟩
          replace H : (qaW.l0 k1 l2 a3 y138 l1 (l1.length : Int) (wrap64 (qbA + 1))) = some r := by first | (rw [qhg]; with_reducible exact H) | (have H2_ := (Option.bind_some _ _).symm.trans H; rw [qhg]; with_reducible exact H2_) | (have H2_ := (Option.bind_some _ _).symm.trans H; with_reducible exact H2_) | with_reducible exact H | (rw [qhg]; exact H) | exact H
          have qpi := qaa.mk qhg; clear qhg; have H' := qaa.mk H; clear H; have p134 : 0 ≤ (qbA : Int) := of_decide_eq_true (by first | (with_reducible assumption) | assumption); have q134 : qbA < (l1.length : Int) := of_decide_eq_true (by first | (with_reducible assumption) | assumption); obtain ⟨quv, e134, qhn⟩ := Kd.at_int HR1.out qbA p134 q134; cases e134; replace qhn := (HB.out.cell (World.block_lt_of_cell? w _ qhn)).trans qhn; replace p134 := eq_true p134; replace q134 := eq_true q134
          try go_wp2
          have n0_ := qaa.mk (Kd.R_drew HO_9.out); have n1_ := qaa.mk (qae qcK.out); have n2_ := qaa.mk (qah HB.out); clear HO_9 qcK HB; have HO_9 := n0_; have qcK := n1_; have HB := n2_; clear n0_ n1_ n2_; have p135 : 0 ≤ (qbA : Int) := of_decide_eq_true (by first | (with_reducible assumption) | assumption); have q135 : qbA < (l2.length : Int) := of_decide_eq_true (by first | (with_reducible assumption) | assumption); obtain ⟨qpj, qtq, qnA, e135, qfm, qi2, qi3⟩ := qo2 HR2.out qbA p135 q135; have qdk := qfm; cases e135; replace qfm := (HB.out.cell (World.block_lt_of_cell? w _ qfm)).trans qfm; have qi4 := qaa.mk qi3; have qr6 := qaa.mk qi2; clear qi3 qi2; replace p135 := eq_true p135; replace q135 := eq_true q135; have p136 : 0 ≤ (a3 : Int) := of_decide_eq_true (by first | (with_reducible assumption) | assumption); have q136 : a3 < ((qcU l2 qbA).length : Int) := of_decide_eq_true (by first | (with_reducible assumption) | assumption); obtain ⟨qhW, e136, qfn, qfo⟩ := qhc qi4.out a3 p136 q136; have qdl := qfo; have qdm := qfn; cases e136; replace qfn := (HB.out.cell (World.block_lt_of_cell? w _ qfn)).trans qfn; replace qfo := (HB.out.cell (World.block_lt_of_cell? w _ qfo)).trans qfo; replace p136 := eq_true p136; replace q136 := eq_true q136; refine qgB (n := 16) (S := fun w' => w'.cell? ⟨qgs, 0, none⟩ = some (.func (.func 69) #[] #[]) ∧ w'.cell? (qpj.add (qbA).toNat) = some (.slice (some qhW) (qcU l2 qbA).length qnA) ∧ w'.cell? (qhW.add ((a3).toNat * 2)) = some (.int .i64 ((qby (qcU l2 qbA) a3).f0)) ∧ w'.cell? ⟨(qhW.add ((a3).toNat * 2)).block, (qhW.add ((a3).toNat * 2)).off + 1, none⟩ = some (.int .i64 ((qby (qcU l2 qbA) a3).f1))) (ds := []) #[false, false, false, false, false, false, false, false, false, false, false, false, false, false, false, false] (by kernel_rfl) rfl rfl ⟨(qai qcK.out 0).trans rfl, ((HB.out.cell (World.block_lt_of_cell? w _ qdk)).trans qdk), ((HB.out.cell (World.block_lt_of_cell? w _ qdm)).trans qdm), ((HB.out.cell (World.block_lt_of_cell? w _ qdl)).trans qdl)⟩ (fun hHeld => ?_); refine qe5 qaW.tab5 qaW.bits5 (fun HT_ HW_ => ?_)
          generalize wr.drew = w14 at HO_9 qcK HB qi4 qfm qfn qfo hHeld ⊢
          refine qbp (i := 0) (N := some 19) (v := ?_) (a' := ?_) #[true, false, false, false, false, false, false, false, false, false, false, false, false, false, false, false] rfl rfl (qbe HT_.out (by kernel_rfl)) (fun _ _ _ h => h) (Or.inl ⟨by rfl, ?_⟩) ?_ ?_
          rotate_left
          ·
           intro w'
           go_simp
           with_reducible rfl
          rotate_left
          ·
           simp only [Act.put, List.setIfInBounds_toArray, List.set_cons_zero, List.set_cons_succ, qaM, qaR]
           rfl
          refine qbp (i := 1) (N := some 20) (v := ?_) (a' := ?_) #[true, true, false, false, false, false, false, false, false, false, false, false, false, false, false, false] rfl rfl (qbe HT_.out (by kernel_rfl)) (fun _ _ _ h => h) (Or.inl ⟨by rfl, ?_⟩) ?_ ?_
          rotate_left
          ·
           intro w'
           go_simp
           with_reducible rfl
          rotate_left
          ·
           simp only [Act.put, List.setIfInBounds_toArray, List.set_cons_zero, List.set_cons_succ, qaM, qaR]
           rfl
          refine qbp (i := 2) (N := some 21) (v := ?_) (a' := ?_) #[true, true, true, false, false, false, false, false, false, false, false, false, false, false, false, false] rfl rfl (qbe HT_.out (by kernel_rfl)) (fun _ _ _ h => h) (Or.inl ⟨by rfl, ?_⟩) ?_ ?_
          rotate_left
          ·
           intro w'
           go_simp
           with_reducible rfl
          rotate_left
          ·
           simp only [Act.put, List.setIfInBounds_toArray, List.set_cons_zero, List.set_cons_succ, qaM, qaR]
           rfl
          refine qbp (i := 4) (N := some 23) (v := ?_) (a' := ?_) #[true, true, true, false, true, false, false, false, false, false, false, false, false, false, false, false] rfl rfl (qbe HT_.out (by kernel_rfl)) (fun _ _ _ h => h) (Or.inl ⟨by rfl, ?_⟩) ?_ ?_
          rotate_left
          ·
           intro w'
           go_simp
           with_reducible rfl
          rotate_left
          ·
           simp only [Act.put, List.setIfInBounds_toArray, List.set_cons_zero, List.set_cons_succ, qaM, qaR]
           rfl
          refine qbp (i := 5) (N := some 24) (v := ?_) (a' := ?_) #[true, true, true, false, true, true, false, false, false, false, false, false, false, false, false, false] rfl rfl (qbe HT_.out (by kernel_rfl)) (fun _ _ _ h => h) (Or.inl ⟨by rfl, ?_⟩) ?_ ?_
          rotate_left
          ·
           intro w'
           go_simp
           with_reducible rfl
          rotate_left
          ·
           simp only [Act.put, List.setIfInBounds_toArray, List.set_cons_zero, List.set_cons_succ, qaM, qaR]
           rfl
          refine qbp (i := 6) (N := some 25) (v := ?_) (a' := ?_) #[true, true, true, false, true, true, true, false, false, false, false, false, false, false, false, false] rfl rfl (qbe HT_.out (by kernel_rfl)) (fun _ _ _ h => h) (Or.inl ⟨by rfl, ?_⟩) ?_ ?_
          rotate_left
          ·
           intro w'
           go_simp
           with_reducible rfl
          rotate_left
          ·
           simp only [Act.put, List.setIfInBounds_toArray, List.set_cons_zero, List.set_cons_succ, qaM, qaR]
           rfl
          refine qbp (i := 8) (N := some 27) (v := ?_) (a' := ?_) #[true, true, true, false, true, true, true, false, true, false, false, false, false, false, false, false] rfl rfl (qbe HT_.out (by kernel_rfl)) (fun _ _ _ h => h) (Or.inl ⟨by rfl, ?_⟩) ?_ ?_
          rotate_left
          ·
           intro w'
           go_simp
           with_reducible rfl
          rotate_left
          ·
           simp only [Act.put, List.setIfInBounds_toArray, List.set_cons_zero, List.set_cons_succ, qaM, qaR]
           rfl
          refine take_ (i := 3) (N := some 22) (v := ?_) (a' := ?_) #[true, true, true, true, true, true, true, false, true, false, false, false, false, false, false, false] rfl rfl (qcJ HT_.out HW_.out (by kernel_rfl)) (fun _ _ _ h => h) (Or.inl ⟨by rfl, ?_⟩) hHeld ?_ ?_
          rotate_left
          ·
           rintro w' ⟨s0, s1, s2, s3⟩
           go_simp
           with_reducible rfl
          rotate_left
          ·
           simp only [Act.put, List.setIfInBounds_toArray, List.set_cons_zero, List.set_cons_succ, qaM, qaR]
           rfl
          refine take_ (i := 7) (N := some 26) (v := ?_) (a' := ?_) #[true, true, true, true, true, true, true, true, true, false, false, false, false, false, false, false] rfl rfl (qcJ HT_.out HW_.out (by kernel_rfl)) (fun _ _ _ h => h) (Or.inl ⟨by rfl, ?_⟩) hHeld ?_ ?_
          rotate_left
          ·
           rintro w' ⟨s0, s1, s2, s3⟩
           go_simp
           with_reducible rfl
          rotate_left
          ·
           simp only [Act.put, List.setIfInBounds_toArray, List.set_cons_zero, List.set_cons_succ, qaM, qaR]
           rfl
          refine qbp (i := 9) (N := some 28) (v := ?_) (a' := ?_) #[true, true, true, true, true, true, true, true, true, true, false, false, false, false, false, false] rfl rfl (qbe HT_.out (by kernel_rfl)) (fun _ _ _ h => h) (Or.inl ⟨by rfl, ?_⟩) ?_ ?_
          rotate_left
          ·
           intro w'
           go_simp
           with_reducible rfl
          rotate_left
          ·
           simp only [Act.put, List.setIfInBounds_toArray, List.set_cons_zero, List.set_cons_succ, qaM, qaR]
           rfl
          refine take_ (i := 10) (N := some 29) (v := ?_) (a' := ?_) #[true, true, true, true, true, true, true, true, true, true, true, false, false, false, false, false] rfl rfl (qcJ HT_.out HW_.out (by kernel_rfl)) (fun _ _ _ h => h) (Or.inl ⟨by rfl, ?_⟩) hHeld ?_ ?_
          rotate_left
          ·
           rintro w' ⟨s0, s1, s2, s3⟩
           go_simp
           with_reducible rfl
          rotate_left
          ·
           simp only [Act.put, List.setIfInBounds_toArray, List.set_cons_zero, List.set_cons_succ, qaM, qaR]
           rfl
          refine one_ (i := 11) (N := some 30) #[true, true, true, true, true, true, true, true, true, true, true, true, false, false, false, false] rfl rfl (qeg HT_.out (by kernel_rfl)) (by decide) (fun K hK => ?_); refine qkY Try.func69 (by kernel_rfl) rfl #[.agg #[.int .i64 ((qby (qcU l2 qbA) a3).f0), .int .i64 ((qby (qcU l2 qbA) a3).f1)]] 22 (by rfl) rfl rfl rfl (by (try simp only [List.map_toArray, List.map_cons, List.map_nil]); first | done | rfl | (simp only [List.length_drop, List.length_take]; rfl)) ?_
          with_reducible refine (qev.calls ((qby (qcU l2 qbA) a3).f0) ((qby (qcU l2 qbA) a3).f1) t137 _ A12.out).mono ?_
          rintro e w15 ⟨rfl, hb⟩; refine ⟨_, rfl, ?_⟩; have n0_ := qaa.mk (Kd.R_below (by (with_reducible repeat (first | apply Kd.R_alloc | apply Kd.R_drewN | apply Kd.R_drew)); exact HO_9.out) hb); have n1_ := qaa.mk (qan (g := qgs) (o := .cells #[.func (.func 69) #[] #[]] 104 (0, 0)) (by (with_reducible repeat (first | refine qac ?_ _ | refine qae ?_ | refine qab ?_ _)); exact qcK.out) hb); have n2_ := qaa.mk (qar (by repeat (first | (with_reducible first | exact HB.out | apply qaf | apply qad | apply qah | refine qag ?_ qgt.out) | exact HB.out)) hb); clear HO_9 qcK HB; have HO_9 := n0_; have qcK := n1_; have HB := n2_; clear n0_ n1_ n2_
          (try clear hb)
          (try clear hb2)
          (try clear hk)
          (try clear hi)
          refine hK.out _ _ ⟨(qai qcK.out 0).trans rfl, ((HB.out.cell (World.block_lt_of_cell? w _ qdk)).trans qdk), ((HB.out.cell (World.block_lt_of_cell? w _ qdm)).trans qdm), ((HB.out.cell (World.block_lt_of_cell? w _ qdl)).trans qdl)⟩ (fun hHeld => ?_); clear hK K; refine qd7 (a' := ?_) ?_ ?_
          rotate_left
          ·
           show Act.put _ (some 30) _ = _
           simp only [Act.put, List.setIfInBounds_toArray, List.set_cons_zero, List.set_cons_succ, qaM, qaR]
           rfl
          refine qbp (i := 12) (N := some 31) (v := ?_) (a' := ?_) #[true, true, true, true, true, true, true, true, true, true, true, true, true, false, false, false] rfl rfl (qbe HT_.out (by kernel_rfl)) (fun _ _ _ h => h) (Or.inl ⟨by rfl, ?_⟩) ?_ ?_
          rotate_left
          ·
           intro w'
           go_simp
           with_reducible rfl
          rotate_left
          ·
           simp only [Act.put, List.setIfInBounds_toArray, List.set_cons_zero, List.set_cons_succ, qaM, qaR]
           rfl
          refine one_ (i := 13) (N := some 32) #[true, true, true, true, true, true, true, true, true, true, true, true, true, true, false, false] rfl rfl (qeg HT_.out (by kernel_rfl)) (by decide) (fun K hK => ?_); refine qns (w1 := ?_) (v := ?_) (by rfl) rfl ?_ ?_
          rotate_left 2
          ·
           go_simp
           constructor
           ·
            rfl
           rfl
          refine hK.out _ _ ⟨(qai (qab qcK.out _) 0).trans rfl, (World.cell?_alloc_lt _ _ _ (World.block_lt_of_cell? _ _ (((HB.out.cell (World.block_lt_of_cell? w _ qdk)).trans qdk)))).trans (((HB.out.cell (World.block_lt_of_cell? w _ qdk)).trans qdk)), (World.cell?_alloc_lt _ _ _ (World.block_lt_of_cell? _ _ (((HB.out.cell (World.block_lt_of_cell? w _ qdm)).trans qdm)))).trans (((HB.out.cell (World.block_lt_of_cell? w _ qdm)).trans qdm)), (World.cell?_alloc_lt _ _ _ (World.block_lt_of_cell? _ _ (((HB.out.cell (World.block_lt_of_cell? w _ qdl)).trans qdl)))).trans (((HB.out.cell (World.block_lt_of_cell? w _ qdl)).trans qdl))⟩ (fun hHeld => ?_); clear hK K; refine qd7 (a' := ?_) ?_ ?_
          rotate_left
          ·
           show Act.put _ (some 32) _ = _
           simp only [Act.put, List.setIfInBounds_toArray, List.set_cons_zero, List.set_cons_succ, qaM, qaR]
           rfl
          refine one_ (i := 14) (N := some 33) #[true, true, true, true, true, true, true, true, true, true, true, true, true, true, true, false] rfl rfl (qeg HT_.out (by kernel_rfl)) (by decide) (fun K hK => ?_); refine Kd.R_append_step (Kd.int .i64) (w0 := w) w.heap.size (by rfl) (.tmp 19) (.tmp 32) 37 3 (.int .i64 0) 8 rfl Try.underlying37 qiw rfl (by decide) (by omega) u9 x9_1 (wrap64 ((rd l1 qbA) * t137)) [.int .i64 (wrap64 ((rd l1 qbA) * t137))] (fun _ => True) (fun _ => False) rfl rfl ?aP (fun _ hk => hk.elim) ?aF ?aO ?aB ?aS ?aL ?_
          (case aP => exact rfl)
          (case aB => exact (by repeat (first | (with_reducible first | exact HB.out | apply qaf | apply qad | apply qah | refine qag ?_ qgt.out) | exact HB.out)))
          (case aF => exact (fun _ _ => trivial))
          (case aO => exact (by (with_reducible repeat (first | apply Kd.R_alloc | apply Kd.R_drewN | apply Kd.R_drew)); exact HO_9.out))
          (case aS => exact (qam (by repeat (first | (with_reducible first | exact HB.out | apply qaf | apply qad | apply qah | refine qag ?_ qgt.out) | exact HB.out))))
          (case aL => have := qph.out; omega)
          intro v139 w16 ho hb hg hat; rw [← qpi.out] at ho; have n0_ := qaa.mk (qd6 (g := qgs) (o := .cells #[.func (.func 69) #[] #[]] 104 (0, 0)) (by (with_reducible repeat (first | refine qac ?_ _ | refine qae ?_ | refine qab ?_ _)); exact qcK.out) hg (Kd.R_ne HO_9.out qcK.out (by decide))); have n1_ := qaa.mk (hb); have n2_ := qaa.mk (ho); clear qcK HB HO_9; have qcK := n0_; have HB := n1_; have qpk := n2_; clear n0_ n1_ n2_ ho hb hg hat; refine hK.out _ _ ⟨(qai qcK.out 0).trans rfl, ((HB.out.cell (World.block_lt_of_cell? w _ qdk)).trans qdk), ((HB.out.cell (World.block_lt_of_cell? w _ qdm)).trans qdm), ((HB.out.cell (World.block_lt_of_cell? w _ qdl)).trans qdl)⟩ (fun hHeld => ?_); clear hK K; refine qd7 (a' := ?_) ?_ ?_
          rotate_left
          ·
           show Act.put _ (some 33) _ = _
           simp only [Act.put, List.setIfInBounds_toArray, List.set_cons_zero, List.set_cons_succ, qaM, qaR]
           rfl
          refine qbp (i := 15) (N := some 9) (v := ?_) (a' := ?_) #[true, true, true, true, true, true, true, true, true, true, true, true, true, true, true, true] rfl rfl (qbe HT_.out (by kernel_rfl)) (fun _ _ _ h => h) (Or.inl ⟨by rfl, ?_⟩) ?_ ?_
          rotate_left
          ·
           intro w'
           go_simp
           with_reducible rfl
          rotate_left
          ·
           simp only [Act.put, List.setIfInBounds_toArray, List.set_cons_zero, List.set_cons_succ, qaM, qaR]
           rfl
          refine qhv (qf8 HT_.out (by kernel_rfl)) ?_
          try go_wp2
          go_roundg k1
          case measure => have := HK1.out; omega
          case rel => exact ⟨(y138), (wrap64 (qbA + 1)), (by first | rfl | (simp; done) | (simp [*]; done)), H', ⟨by have := HK1.out; omega⟩, ⟨by (with_reducible repeat (first | apply Kd.R_alloc | apply Kd.R_drewN | apply Kd.R_drew)); exact qpk.out⟩, ⟨by (with_reducible repeat (first | refine qac ?_ _ | refine qae ?_ | refine qab ?_ _)); exact qcK.out⟩, ⟨by repeat (first | (with_reducible first | exact HB.out | apply qaf | apply qad | apply qah | refine qag ?_ qgt.out) | exact HB.out)⟩⟩
         rw [if_neg c13] at H
         exact absurd H (by simp)
        rw [if_neg c11] at H
        exact absurd H (by simp)
       rw [if_neg c10] at H
       exact absurd H (by simp)
      rw [if_neg c9] at H
      exact absurd H (by simp)
     rw [if_neg c8] at H
     exact absurd H (by simp)
    rw [if_neg c7] at H
    exact absurd H (by simp)
   rw [if_neg c6] at H
   have c6b0 : decide (qbA < (l1.length : Int)) = false := decide_eq_false c6
   clear c6
   replace H := Option.bind_eq_some_iff.mp H
   obtain ⟨t141, A170, H⟩ := H
   replace H : (some t141) = some r := H
   have A17 := qaa.mk A170
   clear A170
   obtain rfl := Option.some.inj H
   obtain ⟨Ao18, co18, eo18⟩ := Kd.R_slice HO_9.out
   subst eo18
   go_wp2_with (first | ((with_reducible refine qaK (f := 97) rfl ?_); refine qbm (some 36) rfl rfl Try.func97 (by kernel_rfl) rfl #[.slice Ao18 x9_1.length co18] rfl (by (try simp only [List.map_toArray, List.map_cons, List.map_nil]); first | done | rfl | (simp only [List.length_drop, List.length_take]; rfl)) ?_; (with_reducible refine (qa5.calls k1 _ _ x9_1 t141 _ ?side1 ?side2 A17.out).mono ?_); (case side1 => repeat (first | exact (Kd.R_reads' HO_9.out).2.2 | (with_reducible refine Kd.C_alloc ?_ _) | (with_reducible refine Kd.C_drewN ?_ _) | (with_reducible refine Kd.C_drew ?_))); (case side2 => exact (Kd.R_reads' HO_9.out).2.1); rintro e w' ⟨rfl, ⟨nd, rfl⟩⟩; refine ⟨_, rfl, ?_⟩))
   go_ret
   exact ⟨by first | rfl | (simp [qaG, qaH] <;> rfl) | (simp [*, qaG, qaH] <;> rfl), by repeat (first | (with_reducible first | exact HB.out | apply qaf | apply qad | apply qah | refine qag ?_ qgt.out) | exact HB.out)⟩
end Go.Proofs.Ytmhomdohhihlcaa.P
namespace Go.Proofs.Ytmhomdohhihlcaa.P
open Go.RowKit Go.Shelf Go.Proofs.YtmhomdohhihlcaaW.PrintWords Go.Proofs.YtmhomdohhihlcaaW.PrintLast Go.Proofs.YtmhomdohhihlcaaW.PrintMore
attribute [local go_sem] Oper.semAt_some
section
variable {F : Fence} {n : Nat} {P : Program} {a : Act} {w : World} {Q : Exit → Act → World → Prop}
theorem qfw {b : Frame} {c : Code} {k : List Item} {cs : List Frame} : step P (lone (b.atR a (.code (.scope c) :: k)) cs w) = .next (lone (b.atR a (.code c :: .inScope c :: k)) cs w) :=
 step_lone_go (by simp [stepG, stepG.exec, Frame.atR])
theorem qmL {b : Frame} {c : Code} {k : List Item} {cs : List Frame} : step P (lone (b.atR a (.inScope c :: k)) cs w) = .next (lone (b.atR a k) cs w) :=
 step_lone_go (by simp [stepG, stepG.exec, Frame.atR])
theorem qo5 {c : Code} (h : c.wpIn F n P (Exit.noGoto Q) a w) : (Code.scope c).wpIn F n P Q a w := by
 intro b k cs hro hb hr
 have h0 : (lone (b.atR a (.code (.scope c) :: k)) cs w).fenced P F := fenced_calm hb hr rfl
 obtain ⟨e, a₁, w₁, hq, harr⟩ := h b (.inScope c :: k) cs hro hb hr
 cases e with
 | normal => exact ⟨.normal, a₁, w₁, hq, .head h0 qfw (StepsIn.trans harr (.one (fenced_calm hb hr rfl) qmL))⟩
 | exit id' =>
  have hx : exitTo id' (.inScope c :: k) = exitTo id' k := by simp [exitTo]
  exact ⟨.exit id', a₁, w₁, hq, fun k' hk => .head h0 qfw (harr.1 k' (by rw [hx]; exact hk)),
    fun hr' hk => let ⟨k₁, h1, h2⟩ := harr.2 hr' (by rw [hx]; exact hk); ⟨k₁, h1, .head h0 qfw h2⟩⟩
 | goto l => exact hq.elim
 | ret => exact ⟨_, a₁, w₁, hq, .of_steps (.one h0 qfw) harr⟩
 | panic ch => exact ⟨_, a₁, w₁, hq, .of_steps (.one h0 qfw) harr⟩
 | outgrown => exact ⟨_, a₁, w₁, hq, .of_steps (.one h0 qfw) harr⟩
end
structure Stop (p : Prop) : Prop where
 out : p
theorem qjM {l n : Nat} {P : Program} {id : Nat} {Q : Exit → Act → World → Prop} {a : Act} {w : World} {ops : List Oper} (m : Nat) (hm : P.follows .mixedOrders = true) (hno : ¬ LetsOut Q) (hd : ops.toArray.all (fun o => match o.op with | .defer _ => false | _ => true) = true) (hB : Region.lexTailB .any ops.toArray m = true)
  (h : wpStill P ops.toArray { w with drawn := w.drawn + 1 } (fun a' => wpList P ops.toArray Q (ops.drop m) a' { w with drawn := w.drawn + 1 }) (ops.take m) a) : (Code.region id ops.toArray true).wpIn (Fence.wide.inRound l) n P Q a w := by
 simp only [Region.lexTailB, Bool.and_eq_true, decide_eq_true_eq] at hB
 obtain ⟨⟨⟨⟨hsel, hn⟩, hs⟩, hc⟩, hlex⟩ := hB
 have hn' : m < ops.length := by simpa using hn
 have htl : (ops.take m).length = m := by simp; omega
 have hdl : (ops.drop m).length = ops.toArray.size - m := by simp
 have inv0 : HeadInv .any ops.toArray m (Array.replicate ops.toArray.size false) :=
  ⟨by simp, fun j oj _ hl => (by rw [getD_replicate_false] at hl; cases hl), fun t _ ht => getD_in (by simpa using ht) (getD_replicate_false _ _)⟩
 have H := wpAnyL_lex (md := .any) (g := ops.toArray.size - m) hsel hs hc hn (ops.take m) 0 _ a (fun j hj => by
  have hj' : j < m := by rw [htl] at hj; exact hj
  simp [hj']) (by simpa using htl) inv0 (by rw [htl]; exact hlex) h
 refine qhb hm hno hd ?_
 have := wpAny_of_head (Q' := Q) (g := ops.toArray.size - m) (fun listed a' hL => by
  have := wpAny_of_seq (md := .any) (Q' := Q) (ops.drop m) m listed a' { w with drawn := w.drawn + 1 } (fun j => by simp [List.getElem?_drop]) (by rw [hdl]; exact hL.1) hL.2
  rwa [hdl] at this) _ _ _ H
 rw [htl, show m + (ops.toArray.size - m) = ops.toArray.size by omega] at this
 exact this
def qaz.ag (k : Nat) (l0 : List (List S25)) (l1 : List S25) (mix : List Int) : Nat → Int → Option Bool
 | 0, _ => some true
 | d + 1, i => (qaZ.f k 0 mix l0 i).bind fun lo => if wrap64 (100 * (qby l1 i).f1) < lo then some false else
   (qaW.f k 0 mix l0 i).bind fun hi => if hi < wrap64 (100 * (qby l1 i).f0) then some false else qaz.ag k l0 l1 mix d (i + 1)
def qaz.wide (out : List S25) (mix : List Int) : List S25 := (out.zip mix).map fun p => ⟨if p.2 < p.1.f0 then p.2 else p.1.f0, if p.1.f1 < p.2 then p.2 else p.1.f1⟩
def qaz.st (k : Nat) (l0 : List (List S25)) (l1 : List S25) (out : List S25) (mix : List Int) : Option (List S25) :=
 (qaz.ag k l0 l1 mix l1.length 0).map fun b => if b then qaz.wide (if out = [] then mix.map (fun n => ⟨n, n⟩) else out) mix else out
def qaz.all (k : Nat) (l0 : List (List S25)) (l1 : List S25) : List (List Int) → List S25 → Option (List S25)
 | [], out => some out
 | x :: xs, out => (qaz.st k l0 l1 out x).bind fun o => qaz.all k l0 l1 xs o
def qaz.sg (k : Nat) (n : Int) : List (List S25) → Bool → Option Bool
 | [], ok => some ok
 | x :: xs, ok => if ok then (qaO.f k x n).bind fun b => qaz.sg k n xs b else qaz.sg k n xs false
def qaz.f (k : Nat) (l0 : List (List S25)) (l1 : List S25) : Option (List S25 × Int) :=
 (qas.f (l0.length : Int) 1 3).bind fun b0 => (if b0 then qaO.f k l1 (l1.length : Int) else some false).bind fun b1 =>
 (qaz.sg k (l1.length : Int) l0 b1).bind fun ok => if ok then
  (qaz.all k l0 l1 (qfI (l0.length - 1) 100 []) []).map fun out => if out = [] then ([], 4) else (out, 0)
 else some ([], 91)
def qfs (o : List S25) (x : List Int) (j : Nat) : List S25 := qaz.wide (o.take j) (x.take j) ++ o.drop j
theorem qoX (o : List S25) (x : List Int) : qfs o x 0 = o := by simp [qfs, qaz.wide]
theorem qpO {o : List S25} {x : List Int} (h : o.length = x.length) : qfs o x x.length = qaz.wide o x := by
 unfold qfs
 rw [List.take_length, ← h, List.take_length, List.drop_length, List.append_nil]
theorem qmJ {o : List S25} {x : List Int} (h : o.length = x.length) {j : Nat} (hj : j ≤ x.length) : (qfs o x j).length = x.length := by
 simp [qfs, qaz.wide]; omega
theorem qqb {o : List S25} {x : List Int} (h : o.length = x.length) {j : Nat} (hj : j < x.length) : (qfs o x j).getD j z25 = o.getD j z25 := by
 have hl : (qaz.wide (o.take j) (x.take j)).length = j := by simp [qaz.wide]; omega
 unfold qfs
 rw [List.getD_eq_getElem?_getD, List.getD_eq_getElem?_getD, List.getElem?_append_right (by omega), hl, Nat.sub_self, List.getElem?_drop, Nat.add_zero]
theorem qo6 {o : List S25} {x : List Int} (h : o.length = x.length) {j : Nat} (hj : j < x.length) {p : S25} (hp : (qfs o x j).getD j z25 = p) :
  (qfs o x j).set j ⟨if rd x (j : Int) < p.f0 then rd x (j : Int) else p.f0, if p.f1 < rd x (j : Int) then rd x (j : Int) else p.f1⟩ = qfs o x (j + 1) := by
 rw [qqb h hj] at hp
 have hjo : j < o.length := by omega
 have hl : (qaz.wide (o.take j) (x.take j)).length = j := by simp [qaz.wide]; omega
 have e1 : o[j] = p := by rw [← hp]; simp [List.getD_eq_getElem?_getD, List.getElem?_eq_getElem hjo]
 have e2 : rd x (j : Int) = x[j] := by simp [rd, List.getD_eq_getElem?_getD, List.getElem?_eq_getElem hj]
 unfold qfs
 rw [List.set_append_right _ _ (by omega), hl, Nat.sub_self, List.drop_eq_getElem_cons hjo, List.set_cons_zero, List.take_succ_eq_append_getElem hjo, List.take_succ_eq_append_getElem hj, e2]
 unfold qaz.wide
 rw [List.zip_append (by simp; omega), List.map_append, List.append_assoc]
 simp [e1]
theorem qaz.ag_mono (l0 : List (List S25)) (l1 : List S25) (mix : List Int) (k : Nat) : ∀ (d : Nat) (i : Int), LeO (qaz.ag k l0 l1 mix d i) (qaz.ag (k + 1) l0 l1 mix d i)
 | 0, _ => LeO.refl _
 | d + 1, i => LeO.bind (qaZ.mono _ _ _ _ _) (fun _ => LeO.ite (LeO.refl _) (LeO.bind (qaW.mono _ _ _ _ _) (fun _ => LeO.ite (LeO.refl _) (qaz.ag_mono l0 l1 mix k d (i + 1)))))
theorem qaz.all_mono (l0 : List (List S25)) (l1 : List S25) (k : Nat) : ∀ (xs : List (List Int)) (o : List S25), LeO (qaz.all k l0 l1 xs o) (qaz.all (k + 1) l0 l1 xs o)
 | [], _ => LeO.refl _
 | x :: xs, o => LeO.bind (LeO.map _ (qaz.ag_mono l0 l1 x k _ _)) (fun o2 => qaz.all_mono l0 l1 k xs o2)
theorem qaz.sg_mono (n : Int) (k : Nat) : ∀ (xs : List (List S25)) (b : Bool), LeO (qaz.sg k n xs b) (qaz.sg (k + 1) n xs b)
 | [], _ => LeO.refl _
 | x :: xs, b => LeO.ite (LeO.bind (qaO.mono _ _ _) (fun b2 => qaz.sg_mono n k xs b2)) (qaz.sg_mono n k xs false)
theorem qaz.mono : ∀ (l0 : List (List S25)) (l1 : List S25) (k : Nat), LeO (qaz.f k l0 l1) (qaz.f (k + 1) l0 l1) := fun l0 l1 k =>
 LeO.bind (LeO.refl _) (fun b0 => LeO.bind (by cases b0 <;> first | exact qaO.mono _ _ _ | exact LeO.refl _) (fun b1 => LeO.bind (qaz.sg_mono _ _ _ _) (fun ok => LeO.ite (LeO.map _ (qaz.all_mono l0 l1 k _ _)) (LeO.refl _))))
structure qfk (w : World) (A0 : Option Addr) (c0 n0 : Nat) (A1 : Option Addr) (c1 n1 : Nat) (W : World) : Prop where
 b2 : W.heap[w.heap.size]? = some (.cells #[.slice A0 n0 c0] 31 (0, 0))
 b3 : W.heap[w.heap.size + 1]? = some (.cells #[.slice A1 n1 c1] 32 (0, 0))
 below : Below w.heap.size w W
theorem qfk.keep {w : World} {A0 A1 : Option Addr} {c0 n0 c1 n1 : Nat} {W W1 : World} (h : qfk w A0 c0 n0 A1 c1 n1 W) (hb : Below W.heap.size W W1) : qfk w A0 c0 n0 A1 c1 n1 W1 :=
 ⟨qan h.b2 hb, qan h.b3 hb, h.below.trans (hb.mono h.below.size)⟩
theorem qfk.drew {w : World} {A0 A1 : Option Addr} {c0 n0 c1 n1 : Nat} {W : World} (h : qfk w A0 c0 n0 A1 c1 n1 W) (m : Nat) : qfk w A0 c0 n0 A1 c1 n1 (W.drewN m) :=
 ⟨h.b2, h.b3, qad h.below m⟩
theorem qn0 {k : Nat} {n : Int} : ∀ {l : List (List S25)} {b : Bool}, qaz.sg k n l b = some true → b = true
 | [], b, h => by simpa [qaz.sg] using h
 | x :: l, true, _ => rfl
 | x :: l, false, h => by
  rw [qaz.sg, if_neg (by decide)] at h
  exact qn0 h
theorem qnR {a b c : Int} (h : qas.f a b c = some true) : b ≤ a ∧ a ≤ c := by
 unfold qas.f at h
 by_cases h1 : b ≤ a
 ·
  rw [if_pos h1] at h
  exact ⟨h1, by simpa using h⟩
 ·
  rw [if_neg h1] at h
  simp at h
theorem qne {n : Nat} {P : Program} {g : Operand} {p q : Tmp} {assign body : Code} {Q : Exit → Act → World → Prop} {a : Act} {w : World}
  {gf : Nat} {lb : Array Value} (hg : a.eval g = .func (.func gf) #[] lb) (eg : ∀ args w, (callFunc gf args).run P w = .ok (.enter gf args) w)
  {B : Nat} {xs : List (List Int)} {w0 : World} (hseq : qjS (n - 1) P gf lb B xs w0) (hb0 : Below w0.heap.size w0 w)
  (I : List (List Int) → World → Prop) (hI : OwnFrom w.heap.size I) (hI0 : ∀ W1 W2 row, I [] W1 → W1.grownBy W2 row → (∀ r, row = some r → w.heap.size ≤ r) → I [] W2) (h0 : I [] w)
  (hassign : ∀ (l : Nat) (v : Value) (W : World) (K : Act → World → Prop), K { tmps := (a.tmps.setIfInBounds p v).setIfInBounds q v, defers := [] } W →
   assign.wpIn (Fence.wide.inRound l) (n - 1 - 1) P (Exit.then K (fun _ _ _ => False)) { tmps := a.tmps.setIfInBounds p v, defers := [] } W)
  (hbody : ∀ (l : Nat) (pre : List (List Int)) (v : Value) (x : List Int) (W : World), I pre W → pre ++ [x] <+: xs → Kd.R (Kd.int .i64) 3 W B (fun _ => True) v x → body.wpIn (Fence.wide.inRound l) (n - 1 - 1) P (qnf B w.heap.size I (pre ++ [x]) W) { tmps := (a.tmps.setIfInBounds p v).setIfInBounds q v, defers := [] } W)
  (hdone : ∀ (D : Nat) (W : World), w.heap.size ≤ D → I xs W → W.heap[D]? = some (.deferred (some [])) → Q .normal { a with defers := { target := .collected D, args := #[] } :: a.defers } W) :
  (Code.rangeFunc g #[p] assign body).wpIn Fence.wide n P Q a w :=
 qlZ hg eg hseq hb0 I hI hI0 h0 (fun v => { tmps := (a.tmps.setIfInBounds p v).setIfInBounds q v, defers := [] }) (fun l v W K hK => by
  have := hassign l v W K hK
  simpa using this) hbody hdone
structure ShI (w : World) (k : Nat) (l0 : List (List S25)) (l1 : List S25) (A0 : Option Addr) (c0 : Nat) (A1 : Option Addr) (c1 lb hb ob B : Nat) (pre : List (List Int)) (W : World) : Prop where
 ex : ∃ (v : Value) (out : List S25), qaz.all k l0 l1 pre [] = some out ∧ W.heap[ob]? = some (.cells #[v] 32 (0, 0)) ∧ Kd.R k25 25 W B (fun _ => True) v out ∧ (v = .slice none 0 0 ↔ out = [])
 bx : qfk w A0 c0 l0.length A1 c1 l1.length W
 lo : W.heap[lb]? = some (.cells #[.func (.func 68) #[] #[]] 104 (0, 0))
 hi : W.heap[hb]? = some (.cells #[.func (.func 69) #[] #[]] 104 (0, 0))
 sz : B ≤ W.heap.size
theorem qf6 {W W1 : World} {row : Option Nat} (hg : W.grownBy W1 row) (hr : ∀ r, row = some r → ∃ o : Obj, W.heap[r]? = some o ∧ o.isCells = false) {g t : Nat} {cs : Array Value} {x : Nat × Nat} (h : W.heap[g]? = some (.cells cs t x)) : W1.heap[g]? = some (.cells cs t x) :=
 (hg.block g (Array.getElem?_eq_some_iff.1 h).1 (fun e => by obtain ⟨o, ho, hc⟩ := hr g e.symm; rw [h] at ho; cases ho; cases hc)).trans h
theorem ShI.step {w : World} {k : Nat} {l0 : List (List S25)} {l1 : List S25} {A0 A1 : Option Addr} {c0 c1 lb hb ob B : Nat} {pre : List (List Int)} {W W1 : World} {row : Option Nat} (h : ShI w k l0 l1 A0 c0 A1 c1 lb hb ob B pre W)
  (hg : W.grownBy W1 row) (hr : ∀ r, row = some r → w.heap.size ≤ r ∧ ∃ o : Obj, W.heap[r]? = some o ∧ o.isCells = false) : ShI w k l0 l1 A0 c0 A1 c1 lb hb ob B pre W1 := by
 have hr2 : ∀ r, row = some r → ∃ o : Obj, W.heap[r]? = some o ∧ o.isCells = false := fun r e => (hr r e).2
 obtain ⟨v, out, h1, h2, h3, h4⟩ := h.ex
 refine ⟨⟨v, out, h1, qf6 hg hr2 h2, ?_, h4⟩, ⟨qf6 hg hr2 h.bx.b2, qf6 hg hr2 h.bx.b3, h.bx.below.grown hg h.bx.below.size (fun r e => (hr r e).1)⟩, qf6 hg hr2 h.lo, qf6 hg hr2 h.hi, Nat.le_trans h.sz hg.size⟩
 refine Kd.R_mono (Kd.R_move (Kd.R_bound h3) (fun b hb => ?_)) (fun _ _ => trivial)
 obtain ⟨_, _, _, q, _, cs, hc⟩ := hb
 rw [hc]
 exact qf6 hg hr2 hc
theorem _root_.Go.Proofs.YtmhomdohhihlcaaW.PrintWords.Kd.R_types2 {α : Type} {d : Kd α} {e : Nat} {w : World} {base : Nat} {ok : Nat → Prop} {v : Value} {xs : List α} (h : d.R e w base ok v xs) {g : Nat} {x : Option (List Deferred)} (hb : w.heap[g]? = some (.deferred x)) : d.R e w base (fun k => ok k ∧ k ≠ g) v xs :=
 Kd.R_mono (Kd.R_bound h) (fun k hk => ⟨hk.1, by
  obtain ⟨_, _, _, q, hq, cells', hc⟩ := hk
  rintro rfl
  rw [hc] at hb
  cases hb⟩)
theorem qhR {k : Nat} {l0 : List (List S25)} {l1 : List S25} : ∀ (a b : List (List Int)) (o : List S25), qaz.all k l0 l1 (a ++ b) o = (qaz.all k l0 l1 a o).bind fun o2 => qaz.all k l0 l1 b o2
 | [], b, o => rfl
 | x :: a, b, o => by
  simp only [List.cons_append, qaz.all, Option.bind_assoc]
  congr 1
  funext o2
  exact qhR a b o2
theorem qqm (out : List S25) (mix : List Int) : (qaz.wide out mix).length = min out.length mix.length := by simp [qaz.wide]
theorem qnW {k : Nat} {l0 : List (List S25)} {l1 : List S25} {R : Nat} : ∀ (a : List (List Int)) (o r : List S25), (∀ x ∈ a, x.length = R) → (o = [] ∨ o.length = R) → qaz.all k l0 l1 a o = some r → r = [] ∨ r.length = R
 | [], o, r, _, ho, h => by
  injection h with h
  rw [← h]
  exact ho
 | x :: a, o, r, ha, ho, h => by
  obtain ⟨o2, h1, h2⟩ := Option.bind_eq_some_iff.1 h
  refine qnW a o2 r (fun y hy => ha y (List.mem_cons_of_mem _ hy)) ?_ h2
  obtain ⟨b, _, h3⟩ := Option.map_eq_some_iff.1 h1
  have hx := ha x List.mem_cons_self
  cases b with
  | false => rw [← h3]; exact ho
  | true =>
   rw [← h3, if_pos rfl, qqm]
   right
   by_cases hz : o = []
   ·
    rw [if_pos hz, List.length_map]; omega
   ·
    rw [if_neg hz]; have := ho.resolve_left hz; omega
theorem qmI : ∀ (m : Nat) (left : Int) (b x : List Int), x ∈ qfI m left b → x.length = b.length + m + 1
 | 0, left, b, x, h => by
  rw [qfI, List.mem_singleton] at h
  simp [h]
 | m + 1, left, b, x, h => by
  rw [qfI] at h
  obtain ⟨n, _, h⟩ := List.mem_flatMap.1 h
  have := qmI m _ _ x h
  simp at this
  omega
theorem qfv {Bl B : Nat} {W W1 : World} (hb : Below W.heap.size W W1) : KeepsFrom Bl W W1 ∧ qco B W W1 :=
 ⟨⟨hb.size, fun k o _ hk _ => (hb.block k (Array.getElem?_eq_some_iff.1 hk).1).trans hk⟩, ⟨hb.size, fun b cs t _ _ hk => (hb.block b (Array.getElem?_eq_some_iff.1 hk).1).trans hk⟩⟩
theorem ShI.same {w : World} {k : Nat} {l0 : List (List S25)} {l1 : List S25} {A0 A1 : Option Addr} {c0 c1 lb hb ob B : Nat} {pre : List (List Int)} {x : List Int} {W W1 : World} (h : ShI w k l0 l1 A0 c0 A1 c1 lb hb ob B pre W)
  (hbl : Below W.heap.size W W1) (hx : ∀ out, qaz.all k l0 l1 pre [] = some out → qaz.all k l0 l1 (pre ++ [x]) [] = some out) : ShI w k l0 l1 A0 c0 A1 c1 lb hb ob B (pre ++ [x]) W1 := by
 obtain ⟨v, out, h1, h2, h3, h4⟩ := h.ex
 exact ⟨⟨v, out, hx out h1, qan h2 hbl, Kd.R_below h3 hbl, h4⟩, h.bx.keep hbl, qan h.lo hbl, qan h.hi hbl, Nat.le_trans h.sz hbl.size⟩
structure ShO (w : World) (A0 : Option Addr) (c0 n0 : Nat) (A1 : Option Addr) (c1 n1 lb hb ob B : Nat) (Ax : Option Addr) (x : List Int) (W z : World) (o : List S25) : Prop where
 kf : KeepsFrom (B + 1) W z
 kr : qco B W z
 bx : qfk w A0 c0 n0 A1 c1 n1 z
 lo : z.heap[lb]? = some (.cells #[.func (.func 68) #[] #[]] 104 (0, 0))
 hi : z.heap[hb]? = some (.cells #[.func (.func 69) #[] #[]] 104 (0, 0))
 ex : ∃ v, z.heap[ob]? = some (.cells #[v] 32 (0, 0)) ∧ Kd.R k25 25 z B (fun _ => True) v o ∧ (v = .slice none 0 0 ↔ o = [])
 cx : Kd.C (Kd.int .i64) z Ax x.length x
 sz : B ≤ z.heap.size
theorem qdE {W W1 : World} {B : Nat} {v : Value} {o : List S25} (hr : Kd.R k25 25 W B (fun _ => True) v o) (hg : W.grownBy W1 v.ownBlock) {g t : Nat} {cs : Array Value} (ht : t ≠ 25) (h : W.heap[g]? = some (.cells cs t (0, 0))) : W1.heap[g]? = some (.cells cs t (0, 0)) :=
 (hg.block g (Array.getElem?_eq_some_iff.1 h).1 (fun e => by
  obtain ⟨cells, hc⟩ := qfR hr.2.choose_spec.1 g e.symm
  rw [h] at hc
  injection hc with hc
  injection hc with _ hc
  exact ht hc)).trans h
theorem ShO.app {w : World} {A0 A1 Ax : Option Addr} {c0 n0 c1 n1 lb : Nat} {x : List Int} {W z z3 : World} {o o2 : List S25} {v v3 : Value} (h : ShO w A0 c0 n0 A1 c1 n1 lb (lb + 1) (lb + 2) (lb + 3) Ax x W z o) (hwl : w.heap.size + 2 ≤ lb)
  (hb : z.heap[lb + 2]? = some (.cells #[v] 32 (0, 0))) (hr : Kd.R k25 25 z (lb + 3) (fun _ => True) v o) (hg : z.grownBy z3 v.ownBlock) (hr3 : Kd.R k25 25 z3 (lb + 3) (fun _ => True) v3 o2) (hv : v3 = .slice none 0 0 ↔ o2 = [])
  {nx cx : Nat} (hrow : Kd.R (Kd.int .i64) 3 W (lb + 3) (fun _ => True) (.slice Ax nx cx) x) : ShO w A0 c0 n0 A1 c1 n1 lb (lb + 1) (lb + 2) (lb + 3) Ax x W (z3.setCell ⟨lb + 2, 0, none⟩ v3) o2 := by
 have hb3 := qdE hr hg (by decide) hb
 have hbk : Below (lb + 3) z z3 := (Below.refl _ z).grown hg h.sz (fun k e => (Kd.R_bound hr).1 k e |>.2.1)
 have hof : ∀ (k : Nat) (ob : Obj), ob.isCells = false → z.heap[k]? = some ob → (z3.setCell ⟨lb + 2, 0, none⟩ v3).heap[k]? = some ob := fun k ob hob hk => by
  refine (Below.heap_setCell z3 ⟨lb + 2, 0, none⟩ v3 k (fun e => ?_)).trans ((hg.block k (Array.getElem?_eq_some_iff.1 hk).1 (fun e => ?_)).trans hk)
  ·
   have e2 : k = lb + 2 := e
   rw [e2, hb] at hk
   cases hk
   cases hob
  ·
   obtain ⟨cells, hc⟩ := qfR hr.2.choose_spec.1 k e.symm
   rw [hk] at hc
   cases hc
   cases hob
 have hsz : (z3.setCell ⟨lb + 2, 0, none⟩ v3).heap.size = z3.heap.size := by simp
 have kr' : qco (lb + 3) W (z3.setCell ⟨lb + 2, 0, none⟩ v3) := ⟨Nat.le_trans h.kr.size (by rw [hsz]; exact hg.size), fun b cs t hb1 ht hk => (Below.heap_setCell z3 ⟨lb + 2, 0, none⟩ v3 b (fun e => by have e2 : b = lb + 2 := e; omega)).trans (qdE hr hg ht (h.kr.same b cs t hb1 ht hk))⟩
 refine ⟨⟨Nat.le_trans h.kf.size (by rw [hsz]; exact hg.size), fun k ob hk1 hk hob => hof k ob hob (h.kf.same k ob hk1 hk hob)⟩, kr',
  ⟨qao (qdE hr hg (by decide) h.bx.b2) (p := ⟨lb + 2, 0, none⟩) (by simp; omega) _, qao (qdE hr hg (by decide) h.bx.b3) (p := ⟨lb + 2, 0, none⟩) (by simp; omega) _, qag (h.bx.below.trans (hbk.mono (by omega))) (by omega)⟩,
  qao (qdE hr hg (by decide) h.lo) (p := ⟨lb + 2, 0, none⟩) (by simp) _, qao (qdE hr hg (by decide) h.hi) (p := ⟨lb + 2, 0, none⟩) (by simp) _,
  ⟨v3, qaw hb3 0 _ rfl, Kd.R_mono (Kd.R_far (p := ⟨lb + 2, 0, none⟩) (Kd.R_types hr3 hb3 (by decide)) (fun _ hk => hk.2) _) (fun _ _ => trivial), hv⟩, (Kd.R_reads' (qj0 hrow kr')).2.2, by rw [hsz]; exact Nat.le_trans h.sz hg.size⟩
theorem qrq : (Try.prog.info? 25).map (·.size) = some 2 ∧ True := ⟨by
 have h := qpL
 cases hi : Try.prog.info? 25 with
 | none => rw [hi] at h; simp at h
 | some i => rw [hi] at h; simp at h; simp [h.2.1], trivial⟩
theorem ShO.put {w : World} {A0 A1 Ax : Option Addr} {c0 n0 c1 n1 lb : Nat} {x : List Int} {W z z3 : World} {o o1 o2 : List S25} {go n cap : Nat} (h : ShO w A0 c0 n0 A1 c1 n1 lb (lb + 1) (lb + 2) (lb + 3) Ax x W z o1) (hwl : w.heap.size + 2 ≤ lb)
  (hb : z.heap[lb + 2]? = some (.cells #[.slice (some ⟨go, 0, none⟩) n cap] 32 (0, 0))) (hr : Kd.R k25 25 z (lb + 3) (fun _ => True) (.slice (some ⟨go, 0, none⟩) n cap) o) (hg : z.grownBy z3 (some go)) (hr3 : Kd.R k25 25 z3 (lb + 3) (fun _ => True) (.slice (some ⟨go, 0, none⟩) n cap) o2) (hv : o2 ≠ [])
  {nx cx : Nat} (hrow : Kd.R (Kd.int .i64) 3 W (lb + 3) (fun _ => True) (.slice Ax nx cx) x) : ShO w A0 c0 n0 A1 c1 n1 lb (lb + 1) (lb + 2) (lb + 3) Ax x W z3 o2 := by
 have hg' : z.grownBy z3 (Value.slice (some ⟨go, 0, none⟩) n cap).ownBlock := hg
 have hbk : Below (lb + 3) z z3 := (Below.refl _ z).grown hg' h.sz (fun k e => (Kd.R_bound hr).1 k e |>.2.1)
 have hof : ∀ (k : Nat) (ob : Obj), ob.isCells = false → z.heap[k]? = some ob → z3.heap[k]? = some ob := fun k ob hob hk => by
  refine (hg'.block k (Array.getElem?_eq_some_iff.1 hk).1 (fun e => ?_)).trans hk
  obtain ⟨cells, hc⟩ := qfR hr.2.choose_spec.1 k e.symm
  rw [hk] at hc
  cases hc
  cases hob
 have kr' : qco (lb + 3) W z3 := ⟨Nat.le_trans h.kr.size hg.size, fun b cs t hb1 ht hk => qdE hr hg' ht (h.kr.same b cs t hb1 ht hk)⟩
 refine ⟨⟨Nat.le_trans h.kf.size hg.size, fun k ob hk1 hk hob => hof k ob hob (h.kf.same k ob hk1 hk hob)⟩, kr',
  ⟨qdE hr hg' (by decide) h.bx.b2, qdE hr hg' (by decide) h.bx.b3, ?_⟩, qdE hr hg' (by decide) h.lo, qdE hr hg' (by decide) h.hi,
  ⟨_, qdE hr hg' (by decide) hb, hr3, ⟨fun e => (by cases e), fun e => absurd e hv⟩⟩, (Kd.R_reads' (qj0 hrow kr')).2.2, Nat.le_trans h.sz hg.size⟩
 exact h.bx.below.trans (hbk.mono (by omega))
theorem qpQ (R : Int) (w : World) : Calls Try.prog 70 #[.int .i64 R] w fun e w' => e = .returned (.func (.func 95) #[] #[.pointer (some ⟨w.heap.size, 0, none⟩)]) ∧ w' = w.alloc (.cells #[.int .i64 R] 3) := by
 go_enter Try.func70, Try.ntmps70
 go_wp2
 go_ret
 exact ⟨rfl, rfl⟩
set_option maxHeartbeats 8000000 in
set_option maxRecDepth 100000 in
theorem qaz.calls (k : Nat) (A0 : Option Addr) (c0 : Nat) (l0 : List (List S25)) (A1 : Option Addr) (c1 : Nat) (l1 : List S25) (r1 : List S25) (r2 : Int) (w : World) (hr0 : Kd.C (Kd.slice 25 k25) w A0 l0.length l0) (hc0 : l0.length ≤ c0) (hr1 : Kd.C k25 w A1 l1.length l1) (hc1 : l1.length ≤ c1) (h : qaz.f k l0 l1 = some (r1, r2)) :
  Calls Try.prog 22 #[.slice A0 l0.length c0, .slice A1 l1.length c1] w fun e w' => ∃ v0_, e = .returned (.tuple #[v0_, .int .i64 r2]) ∧ Kd.V k25 25 w' w.heap.size (fun k_ => w.heap.size ≤ k_) v0_ r1 ∧ Below w.heap.size w w' := by
 refine (callsIn_wide (n := 3)).1 ?_
 have hmix : Try.prog.follows .mixedOrders = true := by kernel_rfl
 unfold qaz.f at h
 obtain ⟨b0, hb0, h⟩ := Option.bind_eq_some_iff.1 h
 obtain ⟨b1, hb1, h⟩ := Option.bind_eq_some_iff.1 h
 obtain ⟨ok, hok, h⟩ := Option.bind_eq_some_iff.1 h
 have HR0 := qaa.mk hr0
 have HC0 := qaa.mk hc0
 have HR1 := qaa.mk hr1
 have HC1 := qaa.mk hc1
 have HH := qaa.mk h
 have HB0 := qaa.mk hb0
 have HB1 := qaa.mk hb1
 have HOK := qaa.mk hok
 clear hr0 hc0 hr1 hc1 h hb0 hb1 hok
 refine callsIn_of_wp_marks Try.func22 rfl trivial ?_ rfl
 simp only [Try.ntmps22, List.size_toArray, List.length_cons, List.length_nil, Nat.reduceAdd, Nat.reduceSub, Array.replicate_succ, Array.replicate_zero, List.push_toArray, List.append_toArray, List.nil_append, List.cons_append]
 gi_wp2
 apply qo5
 have HX := qaa.mk (show qfk w A0 c0 l0.length A1 c1 l1.length ((w.alloc (.cells #[.slice A0 l0.length c0] 31)).alloc (.cells #[.slice A1 l1.length c1] 32)) from
  ⟨(Below.heap_alloc _ _ _ (by simp)).trans (World.alloc_heap_new w _), by have := World.alloc_heap_new (w.alloc (.cells #[.slice A0 l0.length c0] 31)) (.cells #[.slice A1 l1.length c1] 32); rwa [World.size_alloc] at this, qaf (qaf (Below.refl _ _) _) _⟩)
 have HLEN := qaa.mk (show ok = true → 1 ≤ l0.length ∧ l0.length ≤ 3 from fun e => by
  have h1 := HOK.out
  rw [e] at h1
  have h2 := qn0 h1
  have h3 := HB1.out
  rw [h2] at h3
  have h4 : b0 = true := by
   cases b0 with
   | true => rfl
   | false => simp at h3
  have h5 := HB0.out
  rw [h4] at h5
  have h6 := qnR h5
  omega)
 gi_upto_region 1 with (fail)
 gi_cut [6] from 19 (fun v6 wc => v6 = .bool b1 ∧ qaa (qfk w A0 c0 l0.length A1 c1 l1.length wc))
 case first =>
  cases b0 with
  | false =>
   obtain rfl : b1 = false := by have := HB1.out; simpa using this.symm
   gi_wp2_with (first | (refine ⟨trivial, (callsIn_wide.2 (qas.calls _ _ _ false _ HB0.out)).mono ?_⟩; rintro e w' ⟨rfl, ⟨nd, rfl⟩⟩) | (refine ⟨trivial, ?_⟩))
   gi_meet
   case rel => exact ⟨rfl, ⟨HX.out.drew nd⟩⟩
  | true =>
   have HA1 := qaa.mk (show qaO.f k l1 (l1.length : Int) = some b1 from HB1.out)
   gi_wp2_with (first | (refine ⟨trivial, (callsIn_wide.2 (qas.calls _ _ _ true _ HB0.out)).mono ?_⟩; rintro e w' ⟨rfl, ⟨nd, rfl⟩⟩) | (refine ⟨trivial, (callsIn_wide.2 (qaO.calls k A1 c1 l1 (l1.length : Int) b1 _ ?hx HC1.out HA1.out)).mono ?_⟩; (case hx => exact Kd.C_below HR1.out (HX.out.drew nd).below); rintro e w' ⟨rfl, hbb⟩))
   gi_meet
   case rel => exact ⟨rfl, ⟨(HX.out.drew nd).keep hbb⟩⟩
 case rest =>
  clear HX HB0 HB1
  obtain ⟨rfl, HX⟩ := hcut
  have hcz2 : wc.cell? ⟨w.heap.size, 0, none⟩ = some (.slice A0 l0.length c0) := (qai HX.out.b2 0).trans rfl
  gi_wp2
  gi_loopg [6, 30] l0.length (fun d v6 v30 wr => ∃ (b : Bool) (i : Nat), v6 = .bool b ∧ v30 = .int .i64 (i : Int) ∧ qaa (i + d = l0.length) ∧ qaa (qaz.sg k (l1.length : Int) (l0.drop i) b = some ok) ∧ qaa (qfk w A0 c0 l0.length A1 c1 l1.length wr))
  case atStart => exact ⟨b1, 0, rfl, rfl, ⟨by omega⟩, ⟨by simpa using HOK.out⟩, HX⟩
  case round =>
   clear hcz2 HX
   obtain ⟨b, i, rfl, rfl, HD, HS, HX⟩ := hrel
   have hmx : l0.length ≤ 9223372036854775807 := HR0.out.2.1
   by_cases hi : i < l0.length
   ·
    obtain ⟨d, rfl⟩ : ∃ d, gk = d + 1 := ⟨gk - 1, by have := HD.out; omega⟩; have hcz3 : wr.cell? ⟨w.heap.size + 1, 0, none⟩ = some (.slice A1 l1.length c1) := (qai HX.out.b3 0).trans rfl; obtain ⟨ad, A2, c2, ea, hx, hc2, hr2⟩ := qo2 HR0.out (i : Int) (by omega) (by omega); subst ea; replace hx := (HX.out.below.cell (World.block_lt_of_cell? w _ hx)).trans hx; rw [Int.toNat_natCast] at hx
    have hdrop : l0.drop i = qcU l0 i :: l0.drop (i + 1) := by
     rw [List.drop_eq_getElem_cons hi]
     congr 1
     simp [qcU, List.getD_eq_getElem?_getD, List.getElem?_eq_getElem hi]
    have HS2 := qaa.mk (show qaz.sg k (l1.length : Int) (qcU l0 i :: l0.drop (i + 1)) b = some ok by rw [← hdrop]; exact HS.out); have HCA := qaa.mk hr2; have HC2 := qaa.mk hc2; clear hdrop hr2 hc2
    cases b with
    | false =>
     gi_wp2_with (refine ⟨trivial, ?_⟩)
     gi_roundg d
     case measure => omega
     case rel => exact ⟨false, i + 1, rfl, by simp, ⟨by have := HD.out; omega⟩, ⟨by have := HS2.out; simpa [qaz.sg] using this⟩, HX⟩
    | true =>
     obtain ⟨b3, h3, h4⟩ := Option.bind_eq_some_iff.1 (show (qaO.f k (qcU l0 i) (l1.length : Int)).bind (fun b => qaz.sg k (l1.length : Int) (l0.drop (i + 1)) b) = some ok by have := HS2.out; simpa [qaz.sg] using this); have HS3 := qaa.mk h3; have HS4 := qaa.mk h4; clear h3 h4
     gi_wp2_with (refine ⟨trivial, (callsIn_wide.2 (qaO.calls k A2 c2 (qcU l0 i) (l1.length : Int) b3 _ ?hx HC2.out HS3.out)).mono ?_⟩; (case hx => exact Kd.C_below HCA.out HX.out.below); rintro e w' ⟨rfl, hbb⟩)
     gi_roundg d
     case measure => omega
     case rel => exact ⟨b3, i + 1, rfl, by simp, ⟨by have := HD.out; omega⟩, ⟨HS4.out⟩, ⟨HX.out.keep hbb⟩⟩
   ·
    have HE := qaa.mk (show some b = some ok by have := HS.out; rw [List.drop_eq_nil_of_le (by omega)] at this; exact this); clear HS; obtain rfl : b = ok := Option.some.inj HE.out; clear HE
    cases b with
    | false =>
     have HF := HH.out; rw [if_neg (by decide)] at HF
     injection HF with HF
     injection HF with e1 e2
     subst e1 e2
     gi_wp2
     simp only [Exit.noGoto]; refine ⟨_, results_tmp2 rfl _ _ _, ?_⟩
     exact ⟨_, rfl, Kd.V_nil _ _ _ _ _, HX.out.below⟩
    | true =>
     have HF := HH.out; rw [if_pos rfl] at HF; have HF := qaa.mk HF; clear HH
     gi_wp2
     apply wpIn_label
     obtain ⟨lb, hlb⟩ : ∃ lb, wr.heap.size = lb := ⟨_, rfl⟩; obtain ⟨W0, hW0⟩ : ∃ W0, ((wr.alloc (.cells #[.func (.func 68) #[] #[]] 104)).alloc (.cells #[.func (.func 69) #[] #[]] 104)).alloc (.cells #[.slice none 0 0] 32) = W0 := ⟨_, rfl⟩
     have hwlb : w.heap.size ≤ lb := by rw [← hlb]; exact HX.out.below.size
     have qqD : w.heap.size + 2 ≤ lb := by have := qaA HX.out.b3; omega
     have hs0 : W0.heap.size = lb + 3 := by rw [← hW0, ← hlb]; simp
     have hB0 : Below wr.heap.size wr W0 := by rw [← hW0]; exact qaf (qaf (qaf (Below.refl _ _) _) _) _
     have hX0 := HX.out.keep hB0
     have hlo0 : W0.heap[lb]? = some (.cells #[.func (.func 68) #[] #[]] 104 (0, 0)) := by
      rw [← hW0, ← hlb]; exact (Below.heap_alloc _ _ _ (by simp; omega)).trans ((Below.heap_alloc _ _ _ (by simp)).trans (World.alloc_heap_new wr _))
     have hhi0 : W0.heap[lb + 1]? = some (.cells #[.func (.func 69) #[] #[]] 104 (0, 0)) := by
      rw [← hW0, ← hlb]; refine (Below.heap_alloc _ _ _ (by simp)).trans ?_; have := World.alloc_heap_new (wr.alloc (.cells #[.func (.func 68) #[] #[]] 104)) (.cells #[.func (.func 69) #[] #[]] 104); rwa [World.size_alloc] at this
     have hob0 : W0.heap[lb + 2]? = some (.cells #[.slice none 0 0] 32 (0, 0)) := by
      rw [← hW0, ← hlb]; have := World.alloc_heap_new ((wr.alloc (.cells #[.func (.func 68) #[] #[]] 104)).alloc (.cells #[.func (.func 69) #[] #[]] 104)) (.cells #[.slice none 0 0] 32); rwa [World.size_alloc, World.size_alloc] at this
     rw [hW0, show wr.heap.size + 1 + 1 = lb + 2 by omega, show wr.heap.size + 1 = lb + 1 by omega, hlb]; have HI0 := qaa.mk (show ShI w k l0 l1 A0 c0 A1 c1 lb (lb + 1) (lb + 2) (lb + 3) [] W0 from ⟨⟨_, [], rfl, hob0, Kd.R_nil _ _ _ _ _, by simp⟩, hX0, hlo0, hhi0, by omega⟩); have hcz2 : W0.cell? ⟨w.heap.size, 0, none⟩ = some (.slice A0 l0.length c0) := (qai hX0.b2 0).trans rfl; clear hX0 hlo0 hhi0 hob0 hB0 HX hW0
     gi_wp2_with (refine ⟨trivial, (callsIn_wide.2 (qpQ _ _)).mono ?_⟩; rintro e w' ⟨rfl, rfl⟩)
     obtain ⟨hR1, hR3⟩ := (by simpa using HLEN.out)
     have hrb : (W0.alloc (.cells #[.int .i64 (l0.length : Int)] 3)).heap[lb + 3]? = some (.cells #[.int .i64 (l0.length : Int)] 3 (0, 0)) := by
      rw [← hs0]; exact World.alloc_heap_new W0 _
     have hs1 : (W0.alloc (.cells #[.int .i64 (l0.length : Int)] 3)).heap.size = lb + 4 := by simp; omega
     refine qne (p := 49) (q := 12) (gf := 95) (lb := #[.pointer (some ⟨lb + 3, 0, none⟩)]) (B := lb + 3) (xs := qfI (l0.length - 1) 100 []) rfl (enters_of Try.func95 (by kernel_rfl) rfl)
      (qmM _ l0.length (lb + 3) (lb + 3) _ hR1 hR3 (Nat.le_refl _) hrb) (Below.refl _ _) (ShI w k l0 l1 A0 c0 A1 c1 lb (lb + 1) (lb + 2) (lb + 3)) ?hI ?hI0 ?h0 ?assign ?body ?done
     case hI => exact fun pre W1 W2 row h hg hr => h.step hg (fun r e => ⟨by have := (hr r e).1; omega, (hr r e).2⟩)
     case hI0 =>
      intro W1 W2 row h hg hr; obtain ⟨v, out, h1, h2, h3, h4⟩ := h.ex; obtain rfl : [] = out := Option.some.inj h1; obtain rfl := h4.2 rfl
      have kp : ∀ g o, g < lb + 4 → W1.heap[g]? = some o → W2.heap[g]? = some o := fun g o hg2 ho => (hg.block g (Array.getElem?_eq_some_iff.1 ho).1 (fun e => by have := hr g e.symm; omega)).trans ho
      exact ⟨⟨_, [], rfl, kp _ _ (by omega) h2, Kd.R_nil _ _ _ _ _, by simp⟩, ⟨kp _ _ (by omega) h.bx.b2, kp _ _ (by omega) h.bx.b3, h.bx.below.grown hg h.bx.below.size (fun r e => by have := hr r e; omega)⟩, kp _ _ (by omega) h.lo, kp _ _ (by omega) h.hi, Nat.le_trans h.sz hg.size⟩
     case h0 => exact HI0.out.step (World.grownBy_alloc _ _ none) (fun r e => by cases e)
     case assign =>
      intro l v W K hK
      gi_wp2
      exact hK
     case body =>
      intro l pre v x W hI hpre hrow
      have hlen : ∀ y ∈ pre ++ [x], y.length = l0.length := fun y hy => by
       have := qmI _ _ _ _ (hpre.subset hy)
       simp at this
       omega
      have hxl : x.length = l0.length := hlen x (by simp); obtain ⟨Ax, cx, rfl, hcx, hCx⟩ := Kd.R_reads hrow; obtain ⟨vo, out, h1, h2, h3, h4⟩ := hI.ex; have hout : out = [] ∨ out.length = l0.length := qnW pre [] out (fun y hy => hlen y (by simp [hy])) (.inl rfl) h1
      obtain ⟨bb, hag, hst⟩ : ∃ bb, qaz.ag k l0 l1 x l1.length 0 = some bb ∧ qaz.all k l0 l1 (pre ++ [x]) [] = some (if bb then qaz.wide (if out = [] then x.map (fun n => ⟨n, n⟩) else out) x else out) := by
       obtain ⟨ys, hys⟩ := hpre; have hF := HF.out; rw [← hys, qhR, qhR, h1] at hF
       cases hs : qaz.st k l0 l1 out x with
       | none => simp [qaz.all, hs] at hF
       | some o =>
        obtain ⟨bb, hb1, hb2⟩ := Option.map_eq_some_iff.1 hs; refine ⟨bb, hb1, ?_⟩; rw [qhR, h1]; simp only [Option.bind_some, qaz.all, hs, ← hb2]
      have HI := qaa.mk hI; have HAG := qaa.mk hag; have HST := qaa.mk hst; have HOUT := qaa.mk hout; have HROW := qaa.mk hrow; have HCX := qaa.mk hCx; have HN := qaa.mk h4; have HR3 := qaa.mk h3; have HBO := qaa.mk h2; have HALL := qaa.mk h1
      have hmxx : x.length ≤ 3 := by omega
      have HXL := qaa.mk hxl; clear hI hag hst hout hrow hCx h4 h3 h2 h1 HF hpre hlen hxl; simp only [List.setIfInBounds_toArray, List.set_cons_succ, List.set_cons_zero]; have hcz3 : W.cell? ⟨w.heap.size + 1, 0, none⟩ = some (.slice A1 l1.length c1) := (qai HI.out.bx.b3 0).trans rfl; have hmx1 : l1.length ≤ 9223372036854775807 := HR1.out.2.1
      gi_wp2
      gi_loopg [52] l1.length (fun d v52 wr => ∃ (i : Nat), v52 = .int .i64 (i : Int) ∧ qaa (i + d = l1.length) ∧ qaa (qaz.ag k l0 l1 x d (i : Int) = some bb) ∧ qaa (Below W.heap.size W wr))
      case atStart => exact ⟨0, rfl, ⟨by omega⟩, HAG, ⟨Below.refl _ _⟩⟩
      case round =>
       obtain ⟨i, rfl, HD, HA, HB⟩ := hrel
       by_cases hi : i < l1.length
       ·
        obtain ⟨d, rfl⟩ : ∃ d, gk = d + 1 := ⟨gk - 1, by have := HD.out; omega⟩; obtain ⟨ad, ea, hx0, hx1⟩ := qhc HR1.out (i : Int) (by omega) (by omega); subst ea; replace hx0 := (HI.out.bx.below.cell (World.block_lt_of_cell? w _ hx0)).trans hx0; replace hx1 := (HI.out.bx.below.cell (World.block_lt_of_cell? w _ hx1)).trans hx1; replace hx0 := (HB.out.cell (World.block_lt_of_cell? W _ hx0)).trans hx0; replace hx1 := (HB.out.cell (World.block_lt_of_cell? W _ hx1)).trans hx1; rw [Int.toNat_natCast] at hx0 hx1; have hu25 := Try.underlying25
        gi_wp2
        have hww : w.heap.size ≤ W.heap.size := HI.out.bx.below.size; have hlbW : lb + 3 ≤ W.heap.size := HI.out.sz; have hWr : W.heap.size ≤ wr.heap.size := HB.out.size; obtain ⟨We, hWe⟩ : ∃ We, wr.alloc (.cells #[.int .i64 (qby l1 (i : Int)).f0, .int .i64 (qby l1 (i : Int)).f1] 25) = We := ⟨_, rfl⟩
        have hbe : Below wr.heap.size wr We := by rw [← hWe]; exact qaf (Below.refl _ _) _
        have h14 : We.heap[wr.heap.size]? = some (.cells #[.int .i64 (qby l1 (i : Int)).f0, .int .i64 (qby l1 (i : Int)).f1] 25 (0, 0)) := by rw [← hWe]; exact World.alloc_heap_new wr _
        have hse : We.heap.size = wr.heap.size + 1 := by rw [← hWe]; simp
        have HBe := qaa.mk (show Below W.heap.size W We from HB.out.trans (hbe.mono hWr))
        have hSb : ∀ z : World, Below We.heap.size We z → (fun z => z.cell? ⟨lb, 0, none⟩ = some (.func (.func 68) #[] #[]) ∧ z.cell? ⟨lb + 1, 0, none⟩ = some (.func (.func 69) #[] #[]) ∧ z.cell? ⟨w.heap.size, 0, none⟩ = some (.slice A0 l0.length c0) ∧ z.cell? ⟨wr.heap.size, 0, none⟩ = some (.int .i64 (qby l1 (i : Int)).f0) ∧ z.cell? ⟨wr.heap.size, 1, none⟩ = some (.int .i64 (qby l1 (i : Int)).f1)) z := fun z hz => by
         have hbz : Below W.heap.size W z := HBe.out.trans (hz.mono (by omega))
         exact ⟨(qai (qan HI.out.lo hbz) 0).trans rfl, (qai (qan HI.out.hi hbz) 0).trans rfl, (qai (qan HI.out.bx.b2 hbz) 0).trans rfl, (qai (qan h14 hz) 0).trans rfl, (qai (qan h14 hz) 1).trans rfl⟩
        have hS : (fun z => z.cell? ⟨lb, 0, none⟩ = some (.func (.func 68) #[] #[]) ∧ z.cell? ⟨lb + 1, 0, none⟩ = some (.func (.func 69) #[] #[]) ∧ z.cell? ⟨w.heap.size, 0, none⟩ = some (.slice A0 l0.length c0) ∧ z.cell? ⟨wr.heap.size, 0, none⟩ = some (.int .i64 (qby l1 (i : Int)).f0) ∧ z.cell? ⟨wr.heap.size, 1, none⟩ = some (.int .i64 (qby l1 (i : Int)).f1)) We.drew := hSb We.drew (qbs (Below.refl _ _)); rw [hWe]; clear hx0 hx1 hcz3
        obtain ⟨lo, hlo1, hlo2⟩ := Option.bind_eq_some_iff.1 (show (qaZ.f k 0 x l0 (i : Int)).bind (fun lo => if wrap64 (100 * (qby l1 (i : Int)).f1) < lo then some false else
   (qaW.f k 0 x l0 (i : Int)).bind fun hi => if hi < wrap64 (100 * (qby l1 (i : Int)).f0) then some false else qaz.ag k l0 l1 x d ((i : Int) + 1)) = some bb from HA.out)
        have HLO := qaa.mk hlo1; clear hlo1 HA; obtain ⟨qh, hqh⟩ : ∃ q, IntKind.i64.wrap (100 * (qby l1 (i : Int)).f1) = q := ⟨_, rfl⟩; obtain ⟨ql, hql⟩ : ∃ q, IntKind.i64.wrap (100 * (qby l1 (i : Int)).f0) = q := ⟨_, rfl⟩; rw [← qaM, ← qaM, hqh, hql] at hlo2
        by_cases cc : qh < lo
        ·
         obtain rfl : false = bb := by rw [if_pos cc] at hlo2; exact Option.some.inj hlo2
         clear hlo2; have ccb : decide (qh < lo) = true := decide_eq_true cc; clear cc; refine qhb hmix ?hno1 (by kernel_rfl) ?_
         case hno1 => rintro ⟨a, w, h⟩; exact h
         refine wpAny_of_held (S := (fun z => z.cell? ⟨lb, 0, none⟩ = some (.func (.func 68) #[] #[]) ∧ z.cell? ⟨lb + 1, 0, none⟩ = some (.func (.func 69) #[] #[]) ∧ z.cell? ⟨w.heap.size, 0, none⟩ = some (.slice A0 l0.length c0) ∧ z.cell? ⟨wr.heap.size, 0, none⟩ = some (.int .i64 (qby l1 (i : Int)).f0) ∧ z.cell? ⟨wr.heap.size, 1, none⟩ = some (.int .i64 (qby l1 (i : Int)).f1))) _ _ _ _ ?_; change wpAnyH _ _ _ _ _ _ _ _ (World.drew _); refine wpAnyH_take (i := 0) (oi := { dst := some 57, op := _, type := _, pos := _, after := _, guard := _ }) (v := ?vx2) rfl (by kernel_rfl) (by kernel_rfl) (by kernel_rfl) (fun _ _ _ h => h) (Or.inl ⟨by rfl, ?hyx2⟩) hS ?restx2
         case hyx2 =>
          intro z hz; obtain ⟨z1, z2, z3, z4, z5⟩ := hz
          go_simp
          try (with_reducible rfl)
         simp only [Act.put, List.setIfInBounds_toArray, List.set_cons_zero, List.set_cons_succ]; refine wpAnyH_take (i := 1) (oi := { dst := some 58, op := _, type := _, pos := _, after := _, guard := _ }) (v := ?vx3) rfl (by kernel_rfl) (by kernel_rfl) (by kernel_rfl) (fun _ _ _ h => h) (Or.inl ⟨by rfl, ?hyx3⟩) hS ?restx3
         case hyx3 =>
          intro z hz; obtain ⟨z1, z2, z3, z4, z5⟩ := hz
          go_simp
          try (with_reducible rfl)
         simp only [Act.put, List.setIfInBounds_toArray, List.set_cons_zero, List.set_cons_succ]; refine wpAnyH_take (i := 2) (oi := { dst := some 59, op := _, type := _, pos := _, after := _, guard := _ }) (v := ?vx4) rfl (by kernel_rfl) (by kernel_rfl) (by kernel_rfl) (fun _ _ _ h => h) (Or.inl ⟨by rfl, ?hyx4⟩) hS ?restx4
         case hyx4 =>
          intro z hz; obtain ⟨z1, z2, z3, z4, z5⟩ := hz
          go_simp
          try (with_reducible rfl)
         simp only [Act.put, List.setIfInBounds_toArray, List.set_cons_zero, List.set_cons_succ]; refine wpAnyH_take (i := 3) (oi := { dst := some 60, op := _, type := _, pos := _, after := _, guard := _ }) (v := ?vx5) rfl (by kernel_rfl) (by kernel_rfl) (by kernel_rfl) (fun _ _ _ h => h) (Or.inl ⟨by rfl, ?hyx5⟩) hS ?restx5
         case hyx5 =>
          intro z hz; obtain ⟨z1, z2, z3, z4, z5⟩ := hz
          go_simp
          try (with_reducible rfl)
         simp only [Act.put, List.setIfInBounds_toArray, List.set_cons_zero, List.set_cons_succ]; refine wpAnyH_take (i := 5) (oi := { dst := some 62, op := _, type := _, pos := _, after := _, guard := _ }) (v := ?vx6) rfl (by kernel_rfl) (by kernel_rfl) (by kernel_rfl) (fun _ _ _ h => h) (Or.inl ⟨by rfl, ?hyx6⟩) hS ?restx6
         case hyx6 =>
          intro z hz; obtain ⟨z1, z2, z3, z4, z5⟩ := hz
          go_simp
          try (with_reducible rfl)
         simp only [Act.put, List.setIfInBounds_toArray, List.set_cons_zero, List.set_cons_succ]; refine wpAnyH_take (i := 6) (oi := { dst := some 63, op := _, type := _, pos := _, after := _, guard := _ }) (v := ?vx7) rfl (by kernel_rfl) (by kernel_rfl) (by kernel_rfl) (fun _ _ _ h => h) (Or.inl ⟨by rfl, ?hyx7⟩) hS ?restx7
         case hyx7 =>
          intro z hz; obtain ⟨z1, z2, z3, z4, z5⟩ := hz
          go_simp
          try (with_reducible rfl)
         simp only [Act.put, List.setIfInBounds_toArray, List.set_cons_zero, List.set_cons_succ]; refine wpAnyH_take (i := 7) (oi := { dst := some 64, op := _, type := _, pos := _, after := _, guard := _ }) (v := ?vx8) rfl (by kernel_rfl) (by kernel_rfl) (by kernel_rfl) (fun _ _ _ h => h) (Or.inl ⟨by rfl, ?hyx8⟩) hS ?restx8
         case hyx8 =>
          intro z hz; obtain ⟨z1, z2, z3, z4, z5⟩ := hz
          go_simp
          try (with_reducible rfl)
         simp only [Act.put, List.setIfInBounds_toArray, List.set_cons_zero, List.set_cons_succ]; refine wpAnyH_ready (rs := [4]) (by kernel_rfl) (by simp) ?_; refine AllReadyH.cons (o := { dst := some 61, op := .call { callee := .value (.func 71), args := #[.tmp 57, .tmp 58, .tmp 59, .tmp 60], argTypes := #[104, 37, 31, 3] }, type := 3, pos := _, after := _, guard := none }) rfl (fun K hK => ?_) AllReadyH.nil; refine qjw Try.func71 (by kernel_rfl) rfl #[.agg #[.func (.func 68) #[] #[]], .slice Ax x.length cx, .slice A0 l0.length c0, .int .i64 (i : Int)] (by rfl) rfl rfl (by (try simp only [List.map_toArray, List.map_cons, List.map_nil]); first | done | rfl) ?_; refine (qaZ.calls k 0 Ax cx x A0 c0 l0 (i : Int) lo _ ?q1w18 hcx ?q2w18 HC0.out HLO.out).mono ?_
         case q1w18 => exact Kd.C_below HCX.out (qbs HBe.out)
         case q2w18 => exact Kd.C_below HR0.out (HI.out.bx.below.trans ((qbs HBe.out).mono hww))
         rintro e w1 ⟨rfl, hbw1⟩; refine ⟨_, rfl, ?_⟩; have HBw1 := qaa.mk (show Below W.heap.size W w1 from (qbs HBe.out).trans (hbw1.mono (qbs HBe.out).size)); have hS1 := (show _ from hSb w1 ((show Below We.heap.size We w1 from (qbs (Below.refl We.heap.size We)).trans (hbw1.mono ((qbs (Below.refl We.heap.size We)).size))))); clear hS; refine hK.out _ _ hS1 (fun hS => ?_); simp only [Act.put, List.setIfInBounds_toArray, List.set_cons_zero, List.set_cons_succ]; refine wpAnyH_take (i := 8) (oi := { dst := some 65, op := _, type := _, pos := _, after := _, guard := _ }) (v := ?vx9) rfl (by kernel_rfl) (by kernel_rfl) (by kernel_rfl) (fun _ _ _ h => h) (Or.inl ⟨by rfl, ?hyx9⟩) hS ?restx9
         case hyx9 =>
          intro z hz; obtain ⟨z1, z2, z3, z4, z5⟩ := hz
          go_simp
          try (with_reducible rfl)
         simp only [Act.put, List.setIfInBounds_toArray, List.set_cons_zero, List.set_cons_succ]; refine wpAnyH_take (i := 9) (oi := { dst := some 66, op := _, type := _, pos := _, after := _, guard := _ }) (v := ?vx10) rfl (by kernel_rfl) (by kernel_rfl) (by kernel_rfl) (fun _ _ _ h => h) (Or.inl ⟨by rfl, ?hyx10⟩) hS ?restx10
         case hyx10 =>
          intro z hz; obtain ⟨z1, z2, z3, z4, z5⟩ := hz
          go_simp
          try (with_reducible rfl)
         simp only [Act.put, List.setIfInBounds_toArray, List.set_cons_zero, List.set_cons_succ]; refine wpAnyH_take (i := 10) (oi := { dst := some 67, op := _, type := _, pos := _, after := _, guard := _ }) (v := undef) rfl (by kernel_rfl) (by kernel_rfl) (by kernel_rfl) (fun _ _ _ h => h) (Or.inr ⟨by rfl, rfl⟩) hS ?_; simp only [Act.put, List.setIfInBounds_toArray, List.set_cons_zero, List.set_cons_succ]; refine wpAnyH_take (i := 11) (oi := { dst := some 68, op := _, type := _, pos := _, after := _, guard := _ }) (v := undef) rfl (by kernel_rfl) (by kernel_rfl) (by kernel_rfl) (fun _ _ _ h => h) (Or.inr ⟨by rfl, rfl⟩) hS ?_; simp only [Act.put, List.setIfInBounds_toArray, List.set_cons_zero, List.set_cons_succ]; refine wpAnyH_take (i := 12) (oi := { dst := some 69, op := _, type := _, pos := _, after := _, guard := _ }) (v := undef) rfl (by kernel_rfl) (by kernel_rfl) (by kernel_rfl) (fun _ _ _ h => h) (Or.inr ⟨by rfl, rfl⟩) hS ?_; simp only [Act.put, List.setIfInBounds_toArray, List.set_cons_zero, List.set_cons_succ]; refine wpAnyH_take (i := 13) (oi := { dst := some 70, op := _, type := _, pos := _, after := _, guard := _ }) (v := undef) rfl (by kernel_rfl) (by kernel_rfl) (by kernel_rfl) (fun _ _ _ h => h) (Or.inr ⟨by rfl, rfl⟩) hS ?_; simp only [Act.put, List.setIfInBounds_toArray, List.set_cons_zero, List.set_cons_succ]; refine wpAnyH_take (i := 14) (oi := { dst := some 71, op := _, type := _, pos := _, after := _, guard := _ }) (v := undef) rfl (by kernel_rfl) (by kernel_rfl) (by kernel_rfl) (fun _ _ _ h => h) (Or.inr ⟨by rfl, rfl⟩) hS ?_; simp only [Act.put, List.setIfInBounds_toArray, List.set_cons_zero, List.set_cons_succ]; refine wpAnyH_take (i := 15) (oi := { dst := some 72, op := _, type := _, pos := _, after := _, guard := _ }) (v := undef) rfl (by kernel_rfl) (by kernel_rfl) (by kernel_rfl) (fun _ _ _ h => h) (Or.inr ⟨by rfl, rfl⟩) hS ?_; simp only [Act.put, List.setIfInBounds_toArray, List.set_cons_zero, List.set_cons_succ]; refine wpAnyH_take (i := 16) (oi := { dst := some 73, op := _, type := _, pos := _, after := _, guard := _ }) (v := undef) rfl (by kernel_rfl) (by kernel_rfl) (by kernel_rfl) (fun _ _ _ h => h) (Or.inr ⟨by rfl, rfl⟩) hS ?_; simp only [Act.put, List.setIfInBounds_toArray, List.set_cons_zero, List.set_cons_succ]; refine wpAnyH_take (i := 17) (oi := { dst := some 74, op := _, type := _, pos := _, after := _, guard := _ }) (v := undef) rfl (by kernel_rfl) (by kernel_rfl) (by kernel_rfl) (fun _ _ _ h => h) (Or.inr ⟨by rfl, rfl⟩) hS ?_; simp only [Act.put, List.setIfInBounds_toArray, List.set_cons_zero, List.set_cons_succ]; refine wpAnyH_take (i := 18) (oi := { dst := some 75, op := _, type := _, pos := _, after := _, guard := _ }) (v := undef) rfl (by kernel_rfl) (by kernel_rfl) (by kernel_rfl) (fun _ _ _ h => h) (Or.inr ⟨by rfl, rfl⟩) hS ?_; simp only [Act.put, List.setIfInBounds_toArray, List.set_cons_zero, List.set_cons_succ]; refine wpAnyH_take (i := 19) (oi := { dst := some 76, op := _, type := _, pos := _, after := _, guard := _ }) (v := ?vx20) rfl (by kernel_rfl) (by kernel_rfl) (by kernel_rfl) (fun _ _ _ h => h) (Or.inl ⟨by rfl, ?hyx20⟩) hS ?restx20
         case hyx20 =>
          intro z hz; obtain ⟨z1, z2, z3, z4, z5⟩ := hz
          go_simp
          try (with_reducible rfl)
         simp only [Act.put, List.setIfInBounds_toArray, List.set_cons_zero, List.set_cons_succ]; refine wpAnyH_done (by kernel_rfl) ?_ _
         gi_wp2
         exact ⟨(qfv (Bl := lb + 4) (B := lb + 3) HBw1.out).1, (qfv (Bl := lb + 4) (B := lb + 3) HBw1.out).2, HI.out.same HBw1.out (fun o ho => by rw [HST.out, ← ho, HALL.out]; rfl)⟩
        ·
         rw [if_neg cc] at hlo2; have ccb : decide (qh < lo) = false := decide_eq_false cc; clear cc; obtain ⟨hi2, hhi1, hhi2⟩ := Option.bind_eq_some_iff.1 hlo2; have HHI := qaa.mk hhi1; clear hhi1 hlo2
         by_cases dd : hi2 < ql
         ·
          obtain rfl : false = bb := by rw [if_pos dd] at hhi2; exact Option.some.inj hhi2
          clear hhi2; have ddb : decide (hi2 < ql) = true := decide_eq_true dd; clear dd; refine qhb hmix ?hno21 (by kernel_rfl) ?_
          case hno21 => rintro ⟨a, w, h⟩; exact h
          refine wpAny_of_held (S := (fun z => z.cell? ⟨lb, 0, none⟩ = some (.func (.func 68) #[] #[]) ∧ z.cell? ⟨lb + 1, 0, none⟩ = some (.func (.func 69) #[] #[]) ∧ z.cell? ⟨w.heap.size, 0, none⟩ = some (.slice A0 l0.length c0) ∧ z.cell? ⟨wr.heap.size, 0, none⟩ = some (.int .i64 (qby l1 (i : Int)).f0) ∧ z.cell? ⟨wr.heap.size, 1, none⟩ = some (.int .i64 (qby l1 (i : Int)).f1))) _ _ _ _ ?_; change wpAnyH _ _ _ _ _ _ _ _ (World.drew _); refine wpAnyH_take (i := 0) (oi := { dst := some 57, op := _, type := _, pos := _, after := _, guard := _ }) (v := ?vx22) rfl (by kernel_rfl) (by kernel_rfl) (by kernel_rfl) (fun _ _ _ h => h) (Or.inl ⟨by rfl, ?hyx22⟩) hS ?restx22
          case hyx22 =>
           intro z hz; obtain ⟨z1, z2, z3, z4, z5⟩ := hz
           go_simp
           try (with_reducible rfl)
          simp only [Act.put, List.setIfInBounds_toArray, List.set_cons_zero, List.set_cons_succ]; refine wpAnyH_take (i := 1) (oi := { dst := some 58, op := _, type := _, pos := _, after := _, guard := _ }) (v := ?vx23) rfl (by kernel_rfl) (by kernel_rfl) (by kernel_rfl) (fun _ _ _ h => h) (Or.inl ⟨by rfl, ?hyx23⟩) hS ?restx23
          case hyx23 =>
           intro z hz; obtain ⟨z1, z2, z3, z4, z5⟩ := hz
           go_simp
           try (with_reducible rfl)
          simp only [Act.put, List.setIfInBounds_toArray, List.set_cons_zero, List.set_cons_succ]; refine wpAnyH_take (i := 2) (oi := { dst := some 59, op := _, type := _, pos := _, after := _, guard := _ }) (v := ?vx24) rfl (by kernel_rfl) (by kernel_rfl) (by kernel_rfl) (fun _ _ _ h => h) (Or.inl ⟨by rfl, ?hyx24⟩) hS ?restx24
          case hyx24 =>
           intro z hz; obtain ⟨z1, z2, z3, z4, z5⟩ := hz
           go_simp
           try (with_reducible rfl)
          simp only [Act.put, List.setIfInBounds_toArray, List.set_cons_zero, List.set_cons_succ]; refine wpAnyH_take (i := 3) (oi := { dst := some 60, op := _, type := _, pos := _, after := _, guard := _ }) (v := ?vx25) rfl (by kernel_rfl) (by kernel_rfl) (by kernel_rfl) (fun _ _ _ h => h) (Or.inl ⟨by rfl, ?hyx25⟩) hS ?restx25
          case hyx25 =>
           intro z hz; obtain ⟨z1, z2, z3, z4, z5⟩ := hz
           go_simp
           try (with_reducible rfl)
          simp only [Act.put, List.setIfInBounds_toArray, List.set_cons_zero, List.set_cons_succ]; refine wpAnyH_take (i := 5) (oi := { dst := some 62, op := _, type := _, pos := _, after := _, guard := _ }) (v := ?vx26) rfl (by kernel_rfl) (by kernel_rfl) (by kernel_rfl) (fun _ _ _ h => h) (Or.inl ⟨by rfl, ?hyx26⟩) hS ?restx26
          case hyx26 =>
           intro z hz; obtain ⟨z1, z2, z3, z4, z5⟩ := hz
           go_simp
           try (with_reducible rfl)
          simp only [Act.put, List.setIfInBounds_toArray, List.set_cons_zero, List.set_cons_succ]; refine wpAnyH_take (i := 6) (oi := { dst := some 63, op := _, type := _, pos := _, after := _, guard := _ }) (v := ?vx27) rfl (by kernel_rfl) (by kernel_rfl) (by kernel_rfl) (fun _ _ _ h => h) (Or.inl ⟨by rfl, ?hyx27⟩) hS ?restx27
          case hyx27 =>
           intro z hz; obtain ⟨z1, z2, z3, z4, z5⟩ := hz
           go_simp
           try (with_reducible rfl)
          simp only [Act.put, List.setIfInBounds_toArray, List.set_cons_zero, List.set_cons_succ]; refine wpAnyH_take (i := 7) (oi := { dst := some 64, op := _, type := _, pos := _, after := _, guard := _ }) (v := ?vx28) rfl (by kernel_rfl) (by kernel_rfl) (by kernel_rfl) (fun _ _ _ h => h) (Or.inl ⟨by rfl, ?hyx28⟩) hS ?restx28
          case hyx28 =>
           intro z hz; obtain ⟨z1, z2, z3, z4, z5⟩ := hz
           go_simp
           try (with_reducible rfl)
          simp only [Act.put, List.setIfInBounds_toArray, List.set_cons_zero, List.set_cons_succ]; refine wpAnyH_ready (rs := [4]) (by kernel_rfl) (by simp) ?_; refine AllReadyH.cons (o := { dst := some 61, op := .call { callee := .value (.func 71), args := #[.tmp 57, .tmp 58, .tmp 59, .tmp 60], argTypes := #[104, 37, 31, 3] }, type := 3, pos := _, after := _, guard := none }) rfl (fun K hK => ?_) AllReadyH.nil; refine qjw Try.func71 (by kernel_rfl) rfl #[.agg #[.func (.func 68) #[] #[]], .slice Ax x.length cx, .slice A0 l0.length c0, .int .i64 (i : Int)] (by rfl) rfl rfl (by (try simp only [List.map_toArray, List.map_cons, List.map_nil]); first | done | rfl) ?_; refine (qaZ.calls k 0 Ax cx x A0 c0 l0 (i : Int) lo _ ?q1w128 hcx ?q2w128 HC0.out HLO.out).mono ?_
          case q1w128 => exact Kd.C_below HCX.out (qbs HBe.out)
          case q2w128 => exact Kd.C_below HR0.out (HI.out.bx.below.trans ((qbs HBe.out).mono hww))
          rintro e w1 ⟨rfl, hbw1⟩; refine ⟨_, rfl, ?_⟩; have HBw1 := qaa.mk (show Below W.heap.size W w1 from (qbs HBe.out).trans (hbw1.mono (qbs HBe.out).size)); have hS1 := (show _ from hSb w1 ((show Below We.heap.size We w1 from (qbs (Below.refl We.heap.size We)).trans (hbw1.mono ((qbs (Below.refl We.heap.size We)).size))))); clear hS; refine hK.out _ _ hS1 (fun hS => ?_); simp only [Act.put, List.setIfInBounds_toArray, List.set_cons_zero, List.set_cons_succ]; refine wpAnyH_take (i := 8) (oi := { dst := some 65, op := _, type := _, pos := _, after := _, guard := _ }) (v := ?vx29) rfl (by kernel_rfl) (by kernel_rfl) (by kernel_rfl) (fun _ _ _ h => h) (Or.inl ⟨by rfl, ?hyx29⟩) hS ?restx29
          case hyx29 =>
           intro z hz; obtain ⟨z1, z2, z3, z4, z5⟩ := hz
           go_simp
           try (with_reducible rfl)
          simp only [Act.put, List.setIfInBounds_toArray, List.set_cons_zero, List.set_cons_succ]; refine wpAnyH_take (i := 9) (oi := { dst := some 66, op := _, type := _, pos := _, after := _, guard := _ }) (v := ?vx30) rfl (by kernel_rfl) (by kernel_rfl) (by kernel_rfl) (fun _ _ _ h => h) (Or.inl ⟨by rfl, ?hyx30⟩) hS ?restx30
          case hyx30 =>
           intro z hz; obtain ⟨z1, z2, z3, z4, z5⟩ := hz
           go_simp
           try (with_reducible rfl)
          simp only [Act.put, List.setIfInBounds_toArray, List.set_cons_zero, List.set_cons_succ]; refine wpAnyH_take (i := 10) (oi := { dst := some 67, op := _, type := _, pos := _, after := _, guard := _ }) (v := ?vx31) rfl (by kernel_rfl) (by kernel_rfl) (by kernel_rfl) (fun _ _ _ h => h) (Or.inl ⟨by rfl, ?hyx31⟩) hS ?restx31
          case hyx31 =>
           intro z hz; obtain ⟨z1, z2, z3, z4, z5⟩ := hz
           go_simp
           try (with_reducible rfl)
          simp only [Act.put, List.setIfInBounds_toArray, List.set_cons_zero, List.set_cons_succ]; refine wpAnyH_take (i := 11) (oi := { dst := some 68, op := _, type := _, pos := _, after := _, guard := _ }) (v := ?vx32) rfl (by kernel_rfl) (by kernel_rfl) (by kernel_rfl) (fun _ _ _ h => h) (Or.inl ⟨by rfl, ?hyx32⟩) hS ?restx32
          case hyx32 =>
           intro z hz; obtain ⟨z1, z2, z3, z4, z5⟩ := hz
           go_simp
           try (with_reducible rfl)
          simp only [Act.put, List.setIfInBounds_toArray, List.set_cons_zero, List.set_cons_succ]; refine wpAnyH_take (i := 12) (oi := { dst := some 69, op := _, type := _, pos := _, after := _, guard := _ }) (v := ?vx33) rfl (by kernel_rfl) (by kernel_rfl) (by kernel_rfl) (fun _ _ _ h => h) (Or.inl ⟨by rfl, ?hyx33⟩) hS ?restx33
          case hyx33 =>
           intro z hz; obtain ⟨z1, z2, z3, z4, z5⟩ := hz
           go_simp
           try (with_reducible rfl)
          simp only [Act.put, List.setIfInBounds_toArray, List.set_cons_zero, List.set_cons_succ]; refine wpAnyH_take (i := 13) (oi := { dst := some 70, op := _, type := _, pos := _, after := _, guard := _ }) (v := ?vx34) rfl (by kernel_rfl) (by kernel_rfl) (by kernel_rfl) (fun _ _ _ h => h) (Or.inl ⟨by rfl, ?hyx34⟩) hS ?restx34
          case hyx34 =>
           intro z hz; obtain ⟨z1, z2, z3, z4, z5⟩ := hz
           go_simp
           try (with_reducible rfl)
          simp only [Act.put, List.setIfInBounds_toArray, List.set_cons_zero, List.set_cons_succ]; refine wpAnyH_take (i := 15) (oi := { dst := some 72, op := _, type := _, pos := _, after := _, guard := _ }) (v := ?vx35) rfl (by kernel_rfl) (by kernel_rfl) (by kernel_rfl) (fun _ _ _ h => h) (Or.inl ⟨by rfl, ?hyx35⟩) hS ?restx35
          case hyx35 =>
           intro z hz; obtain ⟨z1, z2, z3, z4, z5⟩ := hz
           go_simp
           try (with_reducible rfl)
          simp only [Act.put, List.setIfInBounds_toArray, List.set_cons_zero, List.set_cons_succ]; refine wpAnyH_take (i := 16) (oi := { dst := some 73, op := _, type := _, pos := _, after := _, guard := _ }) (v := ?vx36) rfl (by kernel_rfl) (by kernel_rfl) (by kernel_rfl) (fun _ _ _ h => h) (Or.inl ⟨by rfl, ?hyx36⟩) hS ?restx36
          case hyx36 =>
           intro z hz; obtain ⟨z1, z2, z3, z4, z5⟩ := hz
           go_simp
           try (with_reducible rfl)
          simp only [Act.put, List.setIfInBounds_toArray, List.set_cons_zero, List.set_cons_succ]; refine wpAnyH_take (i := 17) (oi := { dst := some 74, op := _, type := _, pos := _, after := _, guard := _ }) (v := ?vx37) rfl (by kernel_rfl) (by kernel_rfl) (by kernel_rfl) (fun _ _ _ h => h) (Or.inl ⟨by rfl, ?hyx37⟩) hS ?restx37
          case hyx37 =>
           intro z hz; obtain ⟨z1, z2, z3, z4, z5⟩ := hz
           go_simp
           try (with_reducible rfl)
          simp only [Act.put, List.setIfInBounds_toArray, List.set_cons_zero, List.set_cons_succ]; have hbX := (qbs (Below.refl We.heap.size We)).trans (hbw1.mono (Nat.le_refl We.heap.size)); refine wpAnyH_ready (rs := [14]) (by kernel_rfl) (by simp) ?_; refine AllReadyH.cons (o := { dst := some 71, op := .call { callee := .value (.func 71), args := #[.tmp 67, .tmp 68, .tmp 69, .tmp 70], argTypes := #[104, 37, 31, 3] }, type := 3, pos := _, after := _, guard := some (9, false) }) rfl (fun K hK => ?_) AllReadyH.nil; refine qjw Try.func71 (by kernel_rfl) rfl #[.agg #[.func (.func 69) #[] #[]], .slice Ax x.length cx, .slice A0 l0.length c0, .int .i64 (i : Int)] (by rfl) rfl rfl (by (try simp only [List.map_toArray, List.map_cons, List.map_nil]); first | done | rfl) ?_; refine (qaW.calls k 0 Ax cx x A0 c0 l0 (i : Int) hi2 _ ?q1w237 hcx ?q2w237 HC0.out HHI.out).mono ?_
          case q1w237 => exact Kd.C_below HCX.out HBw1.out
          case q2w237 => exact Kd.C_below HR0.out (HI.out.bx.below.trans (HBw1.out.mono hww))
          rintro e w2 ⟨rfl, hbw2⟩; refine ⟨_, rfl, ?_⟩; have HBw2 := qaa.mk (show Below W.heap.size W w2 from HBw1.out.trans (hbw2.mono HBw1.out.size)); have hS1 := (show _ from hSb w2 ((show Below We.heap.size We w2 from hbX.trans (hbw2.mono (hbX.size))))); clear hS; refine hK.out _ _ hS1 (fun hS => ?_); simp only [Act.put, List.setIfInBounds_toArray, List.set_cons_zero, List.set_cons_succ]; refine wpAnyH_take (i := 18) (oi := { dst := some 75, op := _, type := _, pos := _, after := _, guard := _ }) (v := ?vx38) rfl (by kernel_rfl) (by kernel_rfl) (by kernel_rfl) (fun _ _ _ h => h) (Or.inl ⟨by rfl, ?hyx38⟩) hS ?restx38
          case hyx38 =>
           intro z hz; obtain ⟨z1, z2, z3, z4, z5⟩ := hz
           go_simp
           try (with_reducible rfl)
          simp only [Act.put, List.setIfInBounds_toArray, List.set_cons_zero, List.set_cons_succ]; refine wpAnyH_take (i := 19) (oi := { dst := some 76, op := _, type := _, pos := _, after := _, guard := _ }) (v := ?vx39) rfl (by kernel_rfl) (by kernel_rfl) (by kernel_rfl) (fun _ _ _ h => h) (Or.inl ⟨by rfl, ?hyx39⟩) hS ?restx39
          case hyx39 =>
           intro z hz; obtain ⟨z1, z2, z3, z4, z5⟩ := hz
           go_simp
           try (with_reducible rfl)
          simp only [Act.put, List.setIfInBounds_toArray, List.set_cons_zero, List.set_cons_succ]; refine wpAnyH_done (by kernel_rfl) ?_ _
          gi_wp2
          exact ⟨(qfv (Bl := lb + 4) (B := lb + 3) HBw2.out).1, (qfv (Bl := lb + 4) (B := lb + 3) HBw2.out).2, HI.out.same HBw2.out (fun o ho => by rw [HST.out, ← ho, HALL.out]; rfl)⟩
         ·
          rw [if_neg dd] at hhi2; have HA2 := qaa.mk hhi2; have ddb : decide (hi2 < ql) = false := decide_eq_false dd; clear dd hhi2; refine qhb hmix ?hno40 (by kernel_rfl) ?_
          case hno40 => rintro ⟨a, w, h⟩; exact h
          refine wpAny_of_held (S := (fun z => z.cell? ⟨lb, 0, none⟩ = some (.func (.func 68) #[] #[]) ∧ z.cell? ⟨lb + 1, 0, none⟩ = some (.func (.func 69) #[] #[]) ∧ z.cell? ⟨w.heap.size, 0, none⟩ = some (.slice A0 l0.length c0) ∧ z.cell? ⟨wr.heap.size, 0, none⟩ = some (.int .i64 (qby l1 (i : Int)).f0) ∧ z.cell? ⟨wr.heap.size, 1, none⟩ = some (.int .i64 (qby l1 (i : Int)).f1))) _ _ _ _ ?_; change wpAnyH _ _ _ _ _ _ _ _ (World.drew _); refine wpAnyH_take (i := 0) (oi := { dst := some 57, op := _, type := _, pos := _, after := _, guard := _ }) (v := ?vx41) rfl (by kernel_rfl) (by kernel_rfl) (by kernel_rfl) (fun _ _ _ h => h) (Or.inl ⟨by rfl, ?hyx41⟩) hS ?restx41
          case hyx41 =>
           intro z hz; obtain ⟨z1, z2, z3, z4, z5⟩ := hz
           go_simp
           try (with_reducible rfl)
          simp only [Act.put, List.setIfInBounds_toArray, List.set_cons_zero, List.set_cons_succ]; refine wpAnyH_take (i := 1) (oi := { dst := some 58, op := _, type := _, pos := _, after := _, guard := _ }) (v := ?vx42) rfl (by kernel_rfl) (by kernel_rfl) (by kernel_rfl) (fun _ _ _ h => h) (Or.inl ⟨by rfl, ?hyx42⟩) hS ?restx42
          case hyx42 =>
           intro z hz; obtain ⟨z1, z2, z3, z4, z5⟩ := hz
           go_simp
           try (with_reducible rfl)
          simp only [Act.put, List.setIfInBounds_toArray, List.set_cons_zero, List.set_cons_succ]; refine wpAnyH_take (i := 2) (oi := { dst := some 59, op := _, type := _, pos := _, after := _, guard := _ }) (v := ?vx43) rfl (by kernel_rfl) (by kernel_rfl) (by kernel_rfl) (fun _ _ _ h => h) (Or.inl ⟨by rfl, ?hyx43⟩) hS ?restx43
          case hyx43 =>
           intro z hz; obtain ⟨z1, z2, z3, z4, z5⟩ := hz
           go_simp
           try (with_reducible rfl)
          simp only [Act.put, List.setIfInBounds_toArray, List.set_cons_zero, List.set_cons_succ]; refine wpAnyH_take (i := 3) (oi := { dst := some 60, op := _, type := _, pos := _, after := _, guard := _ }) (v := ?vx44) rfl (by kernel_rfl) (by kernel_rfl) (by kernel_rfl) (fun _ _ _ h => h) (Or.inl ⟨by rfl, ?hyx44⟩) hS ?restx44
          case hyx44 =>
           intro z hz; obtain ⟨z1, z2, z3, z4, z5⟩ := hz
           go_simp
           try (with_reducible rfl)
          simp only [Act.put, List.setIfInBounds_toArray, List.set_cons_zero, List.set_cons_succ]; refine wpAnyH_take (i := 5) (oi := { dst := some 62, op := _, type := _, pos := _, after := _, guard := _ }) (v := ?vx45) rfl (by kernel_rfl) (by kernel_rfl) (by kernel_rfl) (fun _ _ _ h => h) (Or.inl ⟨by rfl, ?hyx45⟩) hS ?restx45
          case hyx45 =>
           intro z hz; obtain ⟨z1, z2, z3, z4, z5⟩ := hz
           go_simp
           try (with_reducible rfl)
          simp only [Act.put, List.setIfInBounds_toArray, List.set_cons_zero, List.set_cons_succ]; refine wpAnyH_take (i := 6) (oi := { dst := some 63, op := _, type := _, pos := _, after := _, guard := _ }) (v := ?vx46) rfl (by kernel_rfl) (by kernel_rfl) (by kernel_rfl) (fun _ _ _ h => h) (Or.inl ⟨by rfl, ?hyx46⟩) hS ?restx46
          case hyx46 =>
           intro z hz; obtain ⟨z1, z2, z3, z4, z5⟩ := hz
           go_simp
           try (with_reducible rfl)
          simp only [Act.put, List.setIfInBounds_toArray, List.set_cons_zero, List.set_cons_succ]; refine wpAnyH_take (i := 7) (oi := { dst := some 64, op := _, type := _, pos := _, after := _, guard := _ }) (v := ?vx47) rfl (by kernel_rfl) (by kernel_rfl) (by kernel_rfl) (fun _ _ _ h => h) (Or.inl ⟨by rfl, ?hyx47⟩) hS ?restx47
          case hyx47 =>
           intro z hz; obtain ⟨z1, z2, z3, z4, z5⟩ := hz
           go_simp
           try (with_reducible rfl)
          simp only [Act.put, List.setIfInBounds_toArray, List.set_cons_zero, List.set_cons_succ]; refine wpAnyH_ready (rs := [4]) (by kernel_rfl) (by simp) ?_; refine AllReadyH.cons (o := { dst := some 61, op := .call { callee := .value (.func 71), args := #[.tmp 57, .tmp 58, .tmp 59, .tmp 60], argTypes := #[104, 37, 31, 3] }, type := 3, pos := _, after := _, guard := none }) rfl (fun K hK => ?_) AllReadyH.nil; refine qjw Try.func71 (by kernel_rfl) rfl #[.agg #[.func (.func 68) #[] #[]], .slice Ax x.length cx, .slice A0 l0.length c0, .int .i64 (i : Int)] (by rfl) rfl rfl (by (try simp only [List.map_toArray, List.map_cons, List.map_nil]); first | done | rfl) ?_; refine (qaZ.calls k 0 Ax cx x A0 c0 l0 (i : Int) lo _ ?q1w147 hcx ?q2w147 HC0.out HLO.out).mono ?_
          case q1w147 => exact Kd.C_below HCX.out (qbs HBe.out)
          case q2w147 => exact Kd.C_below HR0.out (HI.out.bx.below.trans ((qbs HBe.out).mono hww))
          rintro e w1 ⟨rfl, hbw1⟩; refine ⟨_, rfl, ?_⟩; have HBw1 := qaa.mk (show Below W.heap.size W w1 from (qbs HBe.out).trans (hbw1.mono (qbs HBe.out).size)); have hS1 := (show _ from hSb w1 ((show Below We.heap.size We w1 from (qbs (Below.refl We.heap.size We)).trans (hbw1.mono ((qbs (Below.refl We.heap.size We)).size))))); clear hS; refine hK.out _ _ hS1 (fun hS => ?_); simp only [Act.put, List.setIfInBounds_toArray, List.set_cons_zero, List.set_cons_succ]; refine wpAnyH_take (i := 8) (oi := { dst := some 65, op := _, type := _, pos := _, after := _, guard := _ }) (v := ?vx48) rfl (by kernel_rfl) (by kernel_rfl) (by kernel_rfl) (fun _ _ _ h => h) (Or.inl ⟨by rfl, ?hyx48⟩) hS ?restx48
          case hyx48 =>
           intro z hz; obtain ⟨z1, z2, z3, z4, z5⟩ := hz
           go_simp
           try (with_reducible rfl)
          simp only [Act.put, List.setIfInBounds_toArray, List.set_cons_zero, List.set_cons_succ]; refine wpAnyH_take (i := 9) (oi := { dst := some 66, op := _, type := _, pos := _, after := _, guard := _ }) (v := ?vx49) rfl (by kernel_rfl) (by kernel_rfl) (by kernel_rfl) (fun _ _ _ h => h) (Or.inl ⟨by rfl, ?hyx49⟩) hS ?restx49
          case hyx49 =>
           intro z hz; obtain ⟨z1, z2, z3, z4, z5⟩ := hz
           go_simp
           try (with_reducible rfl)
          simp only [Act.put, List.setIfInBounds_toArray, List.set_cons_zero, List.set_cons_succ]; refine wpAnyH_take (i := 10) (oi := { dst := some 67, op := _, type := _, pos := _, after := _, guard := _ }) (v := ?vx50) rfl (by kernel_rfl) (by kernel_rfl) (by kernel_rfl) (fun _ _ _ h => h) (Or.inl ⟨by rfl, ?hyx50⟩) hS ?restx50
          case hyx50 =>
           intro z hz; obtain ⟨z1, z2, z3, z4, z5⟩ := hz
           go_simp
           try (with_reducible rfl)
          simp only [Act.put, List.setIfInBounds_toArray, List.set_cons_zero, List.set_cons_succ]; refine wpAnyH_take (i := 11) (oi := { dst := some 68, op := _, type := _, pos := _, after := _, guard := _ }) (v := ?vx51) rfl (by kernel_rfl) (by kernel_rfl) (by kernel_rfl) (fun _ _ _ h => h) (Or.inl ⟨by rfl, ?hyx51⟩) hS ?restx51
          case hyx51 =>
           intro z hz; obtain ⟨z1, z2, z3, z4, z5⟩ := hz
           go_simp
           try (with_reducible rfl)
          simp only [Act.put, List.setIfInBounds_toArray, List.set_cons_zero, List.set_cons_succ]; refine wpAnyH_take (i := 12) (oi := { dst := some 69, op := _, type := _, pos := _, after := _, guard := _ }) (v := ?vx52) rfl (by kernel_rfl) (by kernel_rfl) (by kernel_rfl) (fun _ _ _ h => h) (Or.inl ⟨by rfl, ?hyx52⟩) hS ?restx52
          case hyx52 =>
           intro z hz; obtain ⟨z1, z2, z3, z4, z5⟩ := hz
           go_simp
           try (with_reducible rfl)
          simp only [Act.put, List.setIfInBounds_toArray, List.set_cons_zero, List.set_cons_succ]; refine wpAnyH_take (i := 13) (oi := { dst := some 70, op := _, type := _, pos := _, after := _, guard := _ }) (v := ?vx53) rfl (by kernel_rfl) (by kernel_rfl) (by kernel_rfl) (fun _ _ _ h => h) (Or.inl ⟨by rfl, ?hyx53⟩) hS ?restx53
          case hyx53 =>
           intro z hz; obtain ⟨z1, z2, z3, z4, z5⟩ := hz
           go_simp
           try (with_reducible rfl)
          simp only [Act.put, List.setIfInBounds_toArray, List.set_cons_zero, List.set_cons_succ]; refine wpAnyH_take (i := 15) (oi := { dst := some 72, op := _, type := _, pos := _, after := _, guard := _ }) (v := ?vx54) rfl (by kernel_rfl) (by kernel_rfl) (by kernel_rfl) (fun _ _ _ h => h) (Or.inl ⟨by rfl, ?hyx54⟩) hS ?restx54
          case hyx54 =>
           intro z hz; obtain ⟨z1, z2, z3, z4, z5⟩ := hz
           go_simp
           try (with_reducible rfl)
          simp only [Act.put, List.setIfInBounds_toArray, List.set_cons_zero, List.set_cons_succ]; refine wpAnyH_take (i := 16) (oi := { dst := some 73, op := _, type := _, pos := _, after := _, guard := _ }) (v := ?vx55) rfl (by kernel_rfl) (by kernel_rfl) (by kernel_rfl) (fun _ _ _ h => h) (Or.inl ⟨by rfl, ?hyx55⟩) hS ?restx55
          case hyx55 =>
           intro z hz; obtain ⟨z1, z2, z3, z4, z5⟩ := hz
           go_simp
           try (with_reducible rfl)
          simp only [Act.put, List.setIfInBounds_toArray, List.set_cons_zero, List.set_cons_succ]; refine wpAnyH_take (i := 17) (oi := { dst := some 74, op := _, type := _, pos := _, after := _, guard := _ }) (v := ?vx56) rfl (by kernel_rfl) (by kernel_rfl) (by kernel_rfl) (fun _ _ _ h => h) (Or.inl ⟨by rfl, ?hyx56⟩) hS ?restx56
          case hyx56 =>
           intro z hz; obtain ⟨z1, z2, z3, z4, z5⟩ := hz
           go_simp
           try (with_reducible rfl)
          simp only [Act.put, List.setIfInBounds_toArray, List.set_cons_zero, List.set_cons_succ]; have hbX := (qbs (Below.refl We.heap.size We)).trans (hbw1.mono (Nat.le_refl We.heap.size)); refine wpAnyH_ready (rs := [14]) (by kernel_rfl) (by simp) ?_; refine AllReadyH.cons (o := { dst := some 71, op := .call { callee := .value (.func 71), args := #[.tmp 67, .tmp 68, .tmp 69, .tmp 70], argTypes := #[104, 37, 31, 3] }, type := 3, pos := _, after := _, guard := some (9, false) }) rfl (fun K hK => ?_) AllReadyH.nil; refine qjw Try.func71 (by kernel_rfl) rfl #[.agg #[.func (.func 69) #[] #[]], .slice Ax x.length cx, .slice A0 l0.length c0, .int .i64 (i : Int)] (by rfl) rfl rfl (by (try simp only [List.map_toArray, List.map_cons, List.map_nil]); first | done | rfl) ?_; refine (qaW.calls k 0 Ax cx x A0 c0 l0 (i : Int) hi2 _ ?q1w256 hcx ?q2w256 HC0.out HHI.out).mono ?_
          case q1w256 => exact Kd.C_below HCX.out HBw1.out
          case q2w256 => exact Kd.C_below HR0.out (HI.out.bx.below.trans (HBw1.out.mono hww))
          rintro e w2 ⟨rfl, hbw2⟩; refine ⟨_, rfl, ?_⟩; have HBw2 := qaa.mk (show Below W.heap.size W w2 from HBw1.out.trans (hbw2.mono HBw1.out.size)); have hS1 := (show _ from hSb w2 ((show Below We.heap.size We w2 from hbX.trans (hbw2.mono (hbX.size))))); clear hS; refine hK.out _ _ hS1 (fun hS => ?_); simp only [Act.put, List.setIfInBounds_toArray, List.set_cons_zero, List.set_cons_succ]; refine wpAnyH_take (i := 18) (oi := { dst := some 75, op := _, type := _, pos := _, after := _, guard := _ }) (v := ?vx57) rfl (by kernel_rfl) (by kernel_rfl) (by kernel_rfl) (fun _ _ _ h => h) (Or.inl ⟨by rfl, ?hyx57⟩) hS ?restx57
          case hyx57 =>
           intro z hz; obtain ⟨z1, z2, z3, z4, z5⟩ := hz
           go_simp
           try (with_reducible rfl)
          simp only [Act.put, List.setIfInBounds_toArray, List.set_cons_zero, List.set_cons_succ]; refine wpAnyH_take (i := 19) (oi := { dst := some 76, op := _, type := _, pos := _, after := _, guard := _ }) (v := ?vx58) rfl (by kernel_rfl) (by kernel_rfl) (by kernel_rfl) (fun _ _ _ h => h) (Or.inl ⟨by rfl, ?hyx58⟩) hS ?restx58
          case hyx58 =>
           intro z hz; obtain ⟨z1, z2, z3, z4, z5⟩ := hz
           go_simp
           try (with_reducible rfl)
          simp only [Act.put, List.setIfInBounds_toArray, List.set_cons_zero, List.set_cons_succ]; refine wpAnyH_done (by kernel_rfl) ?_ _
          gi_wp2
          gi_roundg d
          case measure => omega
          case rel => exact ⟨i + 1, by simp, ⟨by have := HD.out; omega⟩, ⟨HA2.out⟩, HBw2⟩
       ·
        have hgk : gk = 0 := by have := HD.out; omega
        subst hgk; obtain rfl : true = bb := Option.some.inj HA.out; clear HA
        have HO := qaa.mk (show ShO w A0 c0 l0.length A1 c1 l1.length lb (lb + 1) (lb + 2) (lb + 3) Ax x W wr out from
         ⟨(qfv (Bl := lb + 4) (B := lb + 3) HB.out).1, (qfv (Bl := lb + 4) (B := lb + 3) HB.out).2, HI.out.bx.keep HB.out, qan HI.out.lo HB.out, qan HI.out.hi HB.out, ⟨vo, qan HBO.out HB.out, Kd.R_below HR3.out HB.out, HN.out⟩, Kd.C_below HCX.out HB.out, Nat.le_trans HI.out.sz HB.out.size⟩)
        clear HD HB hcz3
        gi_upto_region 18 with (fail)
        gi_cut [79] from 80 (fun v79 wc => v79 = .bool (decide (out = [])) ∧ qaa (ShO w A0 c0 l0.length A1 c1 l1.length lb (lb + 1) (lb + 2) (lb + 3) Ax x W wc out))
        case first =>
         obtain ⟨v2, g1, g2, g3⟩ := HO.out.ex; have hob : wr.cell? ⟨lb + 2, 0, none⟩ = some v2 := (qai g1 0).trans rfl
         by_cases ho : out = []
         ·
          rw [g3.2 ho] at hob; have hvn := Lib.run_eql_slice_nil (P := Try.prog) wr 32 25 none 0 0 0 0 Try.underlying32; clear g1 g2 g3
          gi_wp2
          gi_meet
          case rel => exact ⟨by rw [decide_eq_true ho], HO⟩
         ·
          obtain ⟨go, co, eo, _, _, _⟩ := Kd.R_form g2 (List.length_pos_iff.2 ho); rw [eo] at hob; have hvn := Lib.run_eql_slice_nil (P := Try.prog) wr 32 25 (some ⟨go, 0, none⟩) out.length co 0 0 Try.underlying32; clear g1 g2 g3 eo
          gi_wp2
          gi_meet
          case rel => exact ⟨by rw [decide_eq_false ho], HO⟩
        case rest =>
         clear HO; obtain ⟨rfl, HO⟩ := hcut
         gi_upto_if 79 with (fail)
         gi_cut [] from 79 (fun wc => qaa (ShO w A0 c0 l0.length A1 c1 l1.length lb (lb + 1) (lb + 2) (lb + 3) Ax x W wc (if out = [] then x.map (fun n => ⟨n, n⟩) else out)))
         case first =>
          by_cases ho : out = []
          ·
           have hod : decide (out = []) = true := decide_eq_true ho; subst ho
           gi_wp2
           gi_loopg [82] x.length (fun d v82 wr => ∃ (i : Nat), v82 = .int .i64 (i : Int) ∧ qaa (i + d = x.length) ∧ qaa (ShO w A0 c0 l0.length A1 c1 l1.length lb (lb + 1) (lb + 2) (lb + 3) Ax x W wr ((x.take i).map (fun n => ⟨n, n⟩))))
           case atStart => exact ⟨0, rfl, ⟨by omega⟩, ⟨by simpa using HO.out⟩⟩
           case round =>
            obtain ⟨j, rfl, HJ, HO2⟩ := hrel
            by_cases hj : j < x.length
            ·
             obtain ⟨d, rfl⟩ : ∃ d, gk = d + 1 := ⟨gk - 1, by have := HJ.out; omega⟩; obtain ⟨ad, ea, hx0⟩ := Kd.at_int HO2.out.cx (j : Int) (by omega) (by omega); subst ea; rw [Int.toNat_natCast] at hx0; obtain ⟨v2, g1, g2, g3⟩ := HO2.out.ex; have hob : wr.cell? ⟨lb + 2, 0, none⟩ = some v2 := (qai g1 0).trans rfl; have hof := qaj g1 0; have HG1 := qaa.mk g1; have HG2 := qaa.mk g2; have HG3 := qaa.mk g3; clear g1 g2 g3; have hu25 := Try.underlying25
             gi_upto_region 22 with (fail)
             refine qmN ?hnoB (by kernel_rfl) ?_
             case hnoB => rintro ⟨a, w, h⟩; exact h
             go_wp2_with (at_builtin; refine Stop.out ?_)
             refine Stop.mk ?_
             have hl16 : (((x.take j).map (fun n => (⟨n, n⟩ : S25))).length + 1) * 16 ≤ 140737488355328 := by simp; omega
             refine Kd.R_append k25 (w0 := wr) (lb + 3) rfl (.tmp 86) (.tmp 90) 32 25 (.agg #[.int .i64 0, .int .i64 0]) 16 rfl Try.underlying32 qpL rfl (by decide) (by omega) v2 ((x.take j).map (fun n => ⟨n, n⟩)) ⟨rd x j, rd x j⟩ [.int .i64 (rd x j), .int .i64 (rd x j)] (fun _ => True) (fun _ => False) rfl rfl (qf7 _ _ _ ⟨rd x j, rd x j⟩) (fun _ hk => hk.elim) (fun _ _ => trivial) HG2.out (Below.refl _ _) HO2.out.sz hl16 ?_; intro v3 w3 hr3 hb3 hgr3 hat3; obtain ⟨go3, co3, rfl, _, _, _⟩ := Kd.R_form hr3 (by simp); have hob3 : w3.cell? ⟨lb + 2, 0, none⟩ = some v2 := (qai (qdE HG2.out hgr3 (by decide) HG1.out) 0).trans rfl; have hof3 := qaj (qdE HG2.out hgr3 (by decide) HG1.out) 0; have HSN := qaa.mk (HO2.out.app qqD HG1.out HG2.out hgr3 hr3 (by simp) HROW.out)
             go_wp2
             gi_wp2
             gi_roundg d
             case measure => omega
             case rel =>
              refine ⟨j + 1, by simp, ⟨by have := HJ.out; omega⟩, ⟨?_⟩⟩; have h5 := HSN.out; rw [List.take_succ_eq_append_getElem hj, List.map_append, List.map_singleton]
              have h6 : rd x (j : Int) = x[j] := by simp [rd, List.getD_eq_getElem?_getD, List.getElem?_eq_getElem hj]
              rw [← h6]
              simpa using h5
            ·
             have hjx : j = x.length := by have := HJ.out; omega
             subst hjx
             gi_wp2
             gi_meet
             case rel => exact ⟨by have := HO2.out; rw [List.take_length] at this; exact this⟩
          ·
           have hod : decide (out = []) = false := decide_eq_false ho
           gi_wp2
           gi_meet
           case rel => exact ⟨by rw [if_neg ho]; exact HO.out⟩
         case rest =>
          clear HO; have HO := hcut; obtain ⟨o2, ho2⟩ : ∃ o2, (if out = [] then x.map (fun n => (⟨n, n⟩ : S25)) else out) = o2 := ⟨_, rfl⟩
          have hl2 : o2.length = x.length := by
           rw [← ho2]
           rcases HOUT.out with h | h
           ·
            rw [if_pos h]; simp
           ·
            by_cases h0 : out = []
            ·
             rw [if_pos h0]; simp
            ·
             rw [if_neg h0, h, HXL.out]
          rw [ho2] at HO; have HL2 := qaa.mk hl2; have HE2 := qaa.mk ho2; clear ho2 hl2
          gi_wp2
          gi_loopg [95] x.length (fun d v95 wr => ∃ (i : Nat), v95 = .int .i64 (i : Int) ∧ qaa (i + d = x.length) ∧ qaa (ShO w A0 c0 l0.length A1 c1 l1.length lb (lb + 1) (lb + 2) (lb + 3) Ax x W wr (qfs o2 x i)))
          case atStart => exact ⟨0, rfl, ⟨by omega⟩, ⟨by rw [qoX]; exact HO.out⟩⟩
          case round =>
           obtain ⟨j, rfl, HJ, HQ⟩ := hrel
           by_cases hj : j < x.length
           ·
            obtain ⟨d, rfl⟩ : ∃ d, gk = d + 1 := ⟨gk - 1, by have := HJ.out; omega⟩; obtain ⟨ad, ea, hx0⟩ := Kd.at_int HQ.out.cx (j : Int) (by omega) (by omega); subst ea; rw [Int.toNat_natCast] at hx0; obtain ⟨v2, g1, g2, g3⟩ := HQ.out.ex; obtain ⟨oj, hoj⟩ : ∃ oj, qfs o2 x j = oj := ⟨_, rfl⟩
            have hjo : oj.length = x.length := by rw [← hoj]; exact qmJ HL2.out (by omega)
            rw [hoj] at g2 g3; obtain ⟨go, co, rfl, _, _, _⟩ := Kd.R_form g2 (by omega); have hob : wr.cell? ⟨lb + 2, 0, none⟩ = some (.slice (some ⟨go, 0, none⟩) oj.length co) := (qai g1 0).trans rfl
            have hjl : j < oj.length := by omega
            obtain ⟨c, hcl, hM, hcc, hcf⟩ := Kd.R_elem g2 z25 (j : Int) (by omega) (by omega); obtain ⟨p, hp⟩ : ∃ p, oj.getD j z25 = p := ⟨_, rfl⟩; rw [Int.toNat_natCast] at hM hcc hcf; rw [hp] at hM; obtain rfl := qpH hM; have he0 : wr.cell? ⟨go, j * 2, none⟩ = some (.int .i64 p.f0) := hcc 0 _ rfl; have he1 : wr.cell? ⟨go, j * 2 + 1, none⟩ = some (.int .i64 p.f1) := hcc 1 _ rfl; have HCC := qaa.mk hcc; have HG1 := qaa.mk g1; have HG2 := qaa.mk g2; have HP := qaa.mk hp; have HOJ := qaa.mk hoj; have HJO := qaa.mk hjo; clear hcc g1 g2 g3 hp hoj hjo hcl hM hcf; have hu25 := Try.underlying25
            gi_upto_region 27 with (fail)
            refine qjM 18 hmix ?hnoC (by kernel_rfl) (by kernel_rfl) ?_
            case hnoC => rintro ⟨a, w, h⟩; exact h
            simp only [List.take_succ_cons, List.take_zero, List.drop_succ_cons, List.drop_zero]
            repeat still_step
            refine wpStill_nil ?_; change wpList _ _ _ _ _ (World.drew _); refine Kd.R_store k25 (w0 := wr.drew) (lb + 3) rfl rfl 25 (.tmp 117) (.tmp 116) rfl 25 (o' := j * 2) (j : Int) 0 oj ⟨if rd x (j : Int) < p.f0 then rd x (j : Int) else p.f0, if p.f1 < rd x (j : Int) then rd x (j : Int) else p.f1⟩ (.agg #[.int .i64 (if rd x (j : Int) < p.f0 then rd x (j : Int) else p.f0), .int .i64 (if p.f1 < rd x (j : Int) then rd x (j : Int) else p.f1)]) [.int .i64 (if rd x (j : Int) < p.f0 then rd x (j : Int) else p.f0), .int .i64 (if p.f1 < rd x (j : Int) then rd x (j : Int) else p.f1)] [.int .i64 p.f0, .int .i64 p.f1] (fun _ => True) (fun _ => False) rfl (by rw [Int.toNat_natCast]; rfl) rfl rfl (by rw [qrq.1]; rfl) (by simp [Value.oneCell']) (Kd.R_drew HG2.out) (by omega) (by omega) rfl (by rw [Int.toNat_natCast]; exact HCC.out) (Nat.le_refl 2) (qf7 _ _ _ ⟨if rd x (j : Int) < p.f0 then rd x (j : Int) else p.f0, if p.f1 < rd x (j : Int) then rd x (j : Int) else p.f1⟩) (fun _ hk => hk.elim) (Below.refl _ _) ?_; intro w1 hr1 hb1 hgr1
            have hset : oj.set (j : Int).toNat ⟨if rd x (j : Int) < p.f0 then rd x (j : Int) else p.f0, if p.f1 < rd x (j : Int) then rd x (j : Int) else p.f1⟩ = qfs o2 x (j + 1) := by
             rw [Int.toNat_natCast, ← HOJ.out]
             exact qo6 HL2.out hj (by rw [HOJ.out]; exact HP.out)
            rw [hset] at hr1; have HSN := qaa.mk (HQ.out.put qqD HG1.out HG2.out (qhS hgr1) hr1 (by intro e; have := qmJ (j := j + 1) HL2.out (by omega); rw [e] at this; simp at this; omega) HROW.out); clear hset
            go_wp2
            all_goals
             gi_wp2
            all_goals
             gi_roundg d
             case measure => omega
             case rel => exact ⟨j + 1, by simp, ⟨by have := HJ.out; omega⟩, HSN⟩
           ·
            have hjx : j = x.length := by have := HJ.out; omega
            subst hjx
            gi_wp2
            have h5 := HQ.out; rw [qpO HL2.out] at h5; obtain ⟨v2, g1, g2, g3⟩ := h5.ex; refine ⟨h5.kf, h5.kr, ⟨⟨v2, _, ?_, g1, g2, g3⟩, h5.bx, h5.lo, h5.hi, h5.sz⟩⟩; rw [HST.out, ← HE2.out]
            rfl
     case done =>
      intro D W hD hI hK; obtain ⟨v, out, h1, h2, h3, h4⟩ := hI.ex; have hco : W.cell? ⟨lb + 2, 0, none⟩ = some v := (qai h2 0).trans rfl; have hF2 := HF.out; rw [h1] at hF2
      have hDw : w.heap.size ≤ D := by omega
      have HBW := qaa.mk hI.bx.below; have HKD := qaa.mk hK; have HR3 := qaa.mk h3
      have heq : ∀ (a : Option Addr) (n c : Nat), (binOp .eql 32 (.slice a n c) (.slice none 0 0)).run Try.prog W = .ok (.bool a.isNone) W := fun a n c => Lib.run_eql_slice_nil W 32 25 a n c 0 0 Try.underlying32
      clear hI h2 h1 h3 HF hK
      by_cases ho : out = []
      ·
       obtain rfl := h4.2 ho; subst ho
       injection hF2 with hF2
       replace hF2 : (([], 4) : List S25 × Int) = (r1, r2) := hF2
       injection hF2 with e1 e2
       subst e1 e2; clear h4 HR3
       gi_wp2
       simp only [Exit.noGoto]; refine ⟨by simp, .inl ⟨_, _, rfl, run_takeDeferred HKD.out, ?_⟩⟩; refine ⟨_, results_tmp2 rfl _ _ _, ?_⟩
       exact ⟨_, rfl, Kd.V_nil _ _ _ _ _, HBW.out.grown (grownBy_putObj' _ _ _) HBW.out.size (fun r e => by cases e; omega)⟩
      ·
       injection hF2 with hF2
       replace hF2 : (out, (0 : Int)) = (r1, r2) := by rw [← hF2]; simp [ho]
       injection hF2 with e1 e2
       subst e1 e2; have hpos : 0 < out.length := List.length_pos_iff.2 ho; obtain ⟨go, co, eo, gb, gl, cl, HG⟩ := Kd.R_form HR3.out hpos; subst eo; have hcc := (Kd.R_reads' HR3.out).2.1; have hcut := qhH (P := Try.prog) 32 25 Try.underlying32 rfl (some ⟨go, 0, none⟩) out.length co hcc; have HGC := qaa.mk HG; clear HG h4 ho
       gi_wp2
       simp only [Exit.noGoto]; refine ⟨by simp, .inl ⟨_, _, rfl, run_takeDeferred HKD.out, ?_⟩⟩; refine ⟨_, results_tmp2 rfl _ _ _, ?_⟩; have hgp := grownBy_putObj' W D (.deferred none); have hR4 : Kd.R k25 25 W w.heap.size (fun k_ => w.heap.size ≤ k_) (.slice (some ⟨go, 0, none⟩) out.length co) out := Kd.R_mono (Kd.R_bound (Kd.R_lower HR3.out (by omega))) (fun _ hk => hk.2.1)
       have hne : go ≠ D := fun e => by
        have h5 := HGC.out; rw [e, HKD.out] at h5; cases h5
       refine ⟨_, rfl, qpJ (Kd.R_mono (Kd.R_move (Kd.R_types2 hR4 HKD.out) (fun k hk => World.putObj_heap_other hk.2)) (fun _ hk => hk.1)) _ rfl, HBW.out.grown hgp HBW.out.size (fun r e => by cases e; omega)⟩
end Go.Proofs.Ytmhomdohhihlcaa.P
namespace Go.Proofs.Ytmhomdohhihlcaa.P
open Go.RowKit Go.Proofs.YtmhomdohhihlcaaW.PrintWords Go.Proofs.YtmhomdohhihlcaaW.PrintLast Go.Proofs.YtmhomdohhihlcaaW.PrintMore
attribute [local go_sem] qb7 qb6 qcr qcq qbR qbS qb8 qb4
attribute [local go_sem high] qpa
def qb5.l0 : Nat → List (S25) → List (S25) → Int → Option (Bool)
 | 0, _, _, _ => none
 | k + 1, x0, x1, x5 => if x5 < (x0.length : Int) then (if 0 ≤ x5 then (if x5 < (x1.length : Int) then (if (!(((qby x0 x5).f0) == ((qby x1 x5).f0)) || (!(((qby x0 x5).f1) == ((qby x1 x5).f1)))) = true then (some false) else (qb5.l0 k x0 x1 (wrap64 (x5 + 1)))) else (none)) else (none)) else (some true)
def qb5.f (k : Nat) (l0 : List (S25)) (l1 : List (S25)) : Option (Bool) := if (l0.length : Int) = (l1.length : Int) then (qb5.l0 k l0 l1 0) else (some false)
set_option maxHeartbeats 8000000 in
set_option maxRecDepth 100000 in
theorem qb5.calls (k : Nat) (A0 : Option Addr) (c0 : Nat) (l0 : List (S25)) (A1 : Option Addr) (c1 : Nat) (l1 : List (S25)) (r : Bool) (w : World) (hr0 : Kd.C k25 w A0 l0.length l0) (hc0 : l0.length ≤ c0) (hr1 : Kd.C k25 w A1 l1.length l1) (hc1 : l1.length ≤ c1) (h : qb5.f k l0 l1 = some r) :
  Calls Try.prog 24 #[.slice A0 l0.length c0, .slice A1 l1.length c1] w fun e w' => e = .returned (.bool r) ∧ qbz w w' := by
 have hu25 := Try.underlying25
 have HR0 := qaa.mk hr0
 have HC0 := qaa.mk hc0
 clear hr0 hc0
 have HR1 := qaa.mk hr1
 have HC1 := qaa.mk hc1
 clear hr1 hc1
 have H : (if (l0.length : Int) = (l1.length : Int) then (qb5.l0 k l0 l1 0) else (some false)) = some r := h
 clear h
 by_cases c3 : (l0.length : Int) = (l1.length : Int)
 ·
  rw [if_pos c3] at H
  have c3b0 : ((l0.length : Int) == (l1.length : Int)) = true := beq_iff_eq.mpr c3
  have c3b1 : ((l0.length : Int) != (l1.length : Int)) = false := bne_eq_false_iff_eq.mpr c3
  have c3b2 : (l0.length == l1.length) = true := by first | simpa using c3 | (simp at c3 ⊢; omega)
  clear c3
  have H' := qaa.mk H
  clear H
  go_enter Try.func24, Try.ntmps24
  go_wp2
  repeat (go_quiet (fail); try go_wp2)
  go_loopg [5] k (fun kq v5 w' => ∃ (x5_1 : Int), v5 = .int .i64 x5_1 ∧ qaa (qb5.l0 kq l0 l1 x5_1 = some r) ∧ qaa (kq ≤ k) ∧ qbz w w')
  case atStart => exact ⟨(0), (by first | rfl | (simp; done) | (simp [*]; done)), H', ⟨Nat.le_refl _⟩, by repeat (first | exact qbz.refl _ | apply qbz.step)⟩
  case round =>
   clear H'
   try clear c1
   try clear c2
   try clear p2
   try clear c3
   try clear c3b0
   try clear c3b1
   try clear c3b2
   obtain ⟨x5_1, rfl, HA, HK1, ⟨m1, rfl⟩⟩ := hrel
   cases gk with
   | zero => exact absurd HA.out (by simp [qb5.l0])
   | succ k1 =>
    have H := HA.out; clear HA; simp only [qb5.l0] at H
    by_cases c4 : x5_1 < (l0.length : Int)
    ·
     rw [if_pos c4] at H; have c4b0 : decide (x5_1 < (l0.length : Int)) = true := decide_eq_true c4; clear c4
     by_cases c5 : 0 ≤ x5_1
     ·
      rw [if_pos c5] at H; have c5b0 : decide (0 ≤ x5_1) = true := decide_eq_true c5; clear c5
      by_cases c6 : x5_1 < (l1.length : Int)
      ·
       rw [if_pos c6] at H; have c6b0 : decide (x5_1 < (l1.length : Int)) = true := decide_eq_true c6; clear c6
       by_cases c7 : (!(((qby l0 x5_1).f0) == ((qby l1 x5_1).f0)) || (!(((qby l0 x5_1).f1) == ((qby l1 x5_1).f1)))) = true
       ·
        rw [if_pos c7] at H; have c7b0 : (!(((qby l0 x5_1).f0) == ((qby l1 x5_1).f0)) || (!(((qby l0 x5_1).f1) == ((qby l1 x5_1).f1)))) = true := c7; clear c7; obtain rfl := Option.some.inj H; have p142 : 0 ≤ (x5_1 : Int) := of_decide_eq_true (by first | (with_reducible assumption) | assumption); have q142 : x5_1 < (l0.length : Int) := of_decide_eq_true (by first | (with_reducible assumption) | assumption); obtain ⟨quw, e142, qr7, qr8⟩ := qhc HR0.out x5_1 p142 q142; cases e142; replace p142 := eq_true p142; replace q142 := eq_true q142; have p143 : 0 ≤ (x5_1 : Int) := of_decide_eq_true (by first | (with_reducible assumption) | assumption); have q143 : x5_1 < (l1.length : Int) := of_decide_eq_true (by first | (with_reducible assumption) | assumption); obtain ⟨qux, e143, qr9, qsa⟩ := qhc HR1.out x5_1 p143 q143; cases e143; replace p143 := eq_true p143; replace q143 := eq_true q143
        go_wp2
        repeat (go_quiet (fail); try go_wp2)
        go_ret
        exact ⟨by first | rfl | (simp; done) | (simp [*]; done), by repeat (first | exact qbz.refl _ | apply qbz.step)⟩
       rw [if_neg c7] at H
       have c7b0 : (!(((qby l0 x5_1).f0) == ((qby l1 x5_1).f0)) || (!(((qby l0 x5_1).f1) == ((qby l1 x5_1).f1)))) = false := by simpa using c7
       clear c7; have H' := qaa.mk H; clear H; have p142 : 0 ≤ (x5_1 : Int) := of_decide_eq_true (by first | (with_reducible assumption) | assumption); have q142 : x5_1 < (l0.length : Int) := of_decide_eq_true (by first | (with_reducible assumption) | assumption); obtain ⟨quw, e142, qr7, qr8⟩ := qhc HR0.out x5_1 p142 q142; cases e142; replace p142 := eq_true p142; replace q142 := eq_true q142; have p143 : 0 ≤ (x5_1 : Int) := of_decide_eq_true (by first | (with_reducible assumption) | assumption); have q143 : x5_1 < (l1.length : Int) := of_decide_eq_true (by first | (with_reducible assumption) | assumption); obtain ⟨qux, e143, qr9, qsa⟩ := qhc HR1.out x5_1 p143 q143; cases e143; replace p143 := eq_true p143; replace q143 := eq_true q143
       go_wp2
       repeat (go_quiet (fail); try go_wp2)
       go_roundg k1
       case measure => have := HK1.out; omega
       case rel => exact ⟨(wrap64 (x5_1 + 1)), (by first | rfl | (simp; done) | (simp [*]; done)), H', ⟨by have := HK1.out; omega⟩, by repeat (first | exact qbz.refl _ | apply qbz.step)⟩
      rw [if_neg c6] at H
      exact absurd H (by simp)
     rw [if_neg c5] at H
     exact absurd H (by simp)
    rw [if_neg c4] at H; have c4b0 : decide (x5_1 < (l0.length : Int)) = false := decide_eq_false c4; clear c4; obtain rfl := Option.some.inj H
    go_wp2
    repeat (go_quiet (fail); try go_wp2)
    go_ret
    exact ⟨by first | rfl | (simp; done) | (simp [*]; done), by repeat (first | exact qbz.refl _ | apply qbz.step)⟩
 rw [if_neg c3] at H
 have c3b0 : ((l0.length : Int) == (l1.length : Int)) = false := beq_eq_false_iff_ne.mpr c3
 have c3b1 : ((l0.length : Int) != (l1.length : Int)) = true := bne_iff_ne.mpr c3
 have c3b2 : (l0.length == l1.length) = false := by first | simpa using c3 | (simp at c3 ⊢; omega)
 obtain rfl := Option.some.inj H
 go_enter Try.func24, Try.ntmps24
 go_wp2
 repeat (go_quiet (fail); try go_wp2)
 go_ret
 exact ⟨by first | rfl | (simp; done) | (simp [*]; done), by repeat (first | exact qbz.refl _ | apply qbz.step)⟩
end Go.Proofs.Ytmhomdohhihlcaa.P
namespace Go.Proofs.Ytmhomdohhihlcaa.P
open Go.RowKit Go.Proofs.YtmhomdohhihlcaaW.PrintWords Go.Proofs.YtmhomdohhihlcaaW.PrintLast Go.Proofs.YtmhomdohhihlcaaW.PrintMore
attribute [local go_sem] qb7 qb6 qcr qcq qbR qbS qb8 qb4
mutual
def qat.j0 : Nat → Int → Bool → List Int → List Int → List Int → Int → Int → Option (Bool)
 | 0, _, _, _, _, _, _, _ => none
 | k + 1, x3, x4, qfF, qfG, qfH, qgW, qgX => qat.l0 k x3 x4 0 qfF qfG qfH qgW qgX
def qat.l0 : Nat → Int → Bool → Int → List Int → List Int → List Int → Int → Int → Option (Bool)
 | 0, _, _, _, _, _, _, _, _ => none
 | k + 1, x3, x4, x5, qfF, qfG, qfH, qgW, qgX => if x4 = true then (qat.j2 k x3 x4 x5 (decide (x5 < x3)) qfF qfG qfH qgW qgX) else (qat.j2 k x3 x4 x5 false qfF qfG qfH qgW qgX)
def qat.j2 : Nat → Int → Bool → Int → Bool → List Int → List Int → List Int → Int → Int → Option (Bool)
 | 0, _, _, _, _, _, _, _, _, _ => none
 | k + 1, x3, x4, x5, x47, qfF, qfG, qfH, qgW, qgX => if x47 = true then (if 0 ≤ x5 then (if x5 < (qfF.length : Int) then ((qas.f (rd qfF x5) 0 100000).bind fun t149 => (if t149 = true then (if x5 < (qfG.length : Int) then ((qas.f (rd qfG x5) 0 1000).bind fun t151 => (if t151 = true then (if x5 < (qfH.length : Int) then ((qas.f (rd qfH x5) 0 100).bind fun t153 => (qat.l0 k x3 t153 (wrap64 (x5 + 1)) qfF qfG qfH qgW qgX)) else (none)) else (qat.l0 k x3 false (wrap64 (x5 + 1)) qfF qfG qfH qgW qgX))) else (none)) else (qat.l0 k x3 false (wrap64 (x5 + 1)) qfF qfG qfH qgW qgX))) else (none)) else (none)) else (some x4)
end
def qat.f (k : Nat) (l0_0 : List Int) (l0_1 : List Int) (l0_2 : List Int) (a0_3 : Int) (a0_4 : Int) : Option (Bool) := (qas.f (l0_0.length : Int) 1 6).bind fun t145 => (if t145 = true then (if (l0_1.length : Int) = (l0_0.length : Int) then (if (l0_2.length : Int) = (l0_0.length : Int) then ((qas.f a0_3 0 100000000).bind fun t146 => (if t146 = true then ((qas.f a0_4 0 (wrap64 ((l0_0.length : Int) - 1))).bind fun t147 => (qat.j0 k (l0_0.length : Int) t147 l0_0 l0_1 l0_2 a0_3 a0_4)) else (qat.j0 k (l0_0.length : Int) false l0_0 l0_1 l0_2 a0_3 a0_4))) else (qat.j0 k (l0_0.length : Int) false l0_0 l0_1 l0_2 a0_3 a0_4)) else (qat.j0 k (l0_0.length : Int) false l0_0 l0_1 l0_2 a0_3 a0_4)) else (qat.j0 k (l0_0.length : Int) false l0_0 l0_1 l0_2 a0_3 a0_4))
set_option maxHeartbeats 8000000 in
set_option maxRecDepth 100000 in
theorem qat.calls (k : Nat) (A0_0 : Option Addr) (c0_0 : Nat) (l0_0 : List Int) (A0_1 : Option Addr) (c0_1 : Nat) (l0_1 : List Int) (A0_2 : Option Addr) (c0_2 : Nat) (l0_2 : List Int) (a0_3 : Int) (a0_4 : Int) (r : Bool) (w : World) (qdZ : Kd.C (Kd.int .i64) w A0_0 l0_0.length l0_0) (qd8 : l0_0.length ≤ c0_0) (qd0 : Kd.C (Kd.int .i64) w A0_1 l0_1.length l0_1) (qd9 : l0_1.length ≤ c0_1) (qd1 : Kd.C (Kd.int .i64) w A0_2 l0_2.length l0_2) (qea : l0_2.length ≤ c0_2) (h : qat.f k l0_0 l0_1 l0_2 a0_3 a0_4 = some r) :
  Calls Try.prog 76 #[.agg #[.slice A0_0 l0_0.length c0_0, .slice A0_1 l0_1.length c0_1, .slice A0_2 l0_2.length c0_2, .int .i64 a0_3, .int .i64 a0_4]] w fun e w' => e = .returned (.bool r) ∧ Below w.heap.size w w' := by
 have qpl := Try.underlying111
 have qda := qaa.mk qdZ
 have qdt := qaa.mk qd8
 clear qdZ qd8
 have qde := qaa.mk qd0
 have qdu := qaa.mk qd9
 clear qd0 qd9
 have qdf := qaa.mk qd1
 have qdv := qaa.mk qea
 clear qd1 qea
 have HB := qaa.mk (Below.refl w.heap.size w)
 have H : ((qas.f (l0_0.length : Int) 1 6).bind fun t145 => (if t145 = true then (if (l0_1.length : Int) = (l0_0.length : Int) then (if (l0_2.length : Int) = (l0_0.length : Int) then ((qas.f a0_3 0 100000000).bind fun t146 => (if t146 = true then ((qas.f a0_4 0 (wrap64 ((l0_0.length : Int) - 1))).bind fun t147 => (qat.j0 k (l0_0.length : Int) t147 l0_0 l0_1 l0_2 a0_3 a0_4)) else (qat.j0 k (l0_0.length : Int) false l0_0 l0_1 l0_2 a0_3 a0_4))) else (qat.j0 k (l0_0.length : Int) false l0_0 l0_1 l0_2 a0_3 a0_4)) else (qat.j0 k (l0_0.length : Int) false l0_0 l0_1 l0_2 a0_3 a0_4)) else (qat.j0 k (l0_0.length : Int) false l0_0 l0_1 l0_2 a0_3 a0_4))) = some r := h
 clear h
 have HC2 := qaa.mk H
 clear H
 go_enter Try.func76, Try.ntmps76
 go_upto_region 2 with (first | ((with_reducible refine qaN (N := 1) rfl ?_); (try (refine qed (by rfl) ?_; dsimp only)); refine qa9 ?hg (N := 1) ?hd (cs := #[.slice A0_0 l0_0.length c0_0, .slice A0_1 l0_1.length c0_1, .slice A0_2 l0_2.length c0_2, .int .i64 a0_3, .int .i64 a0_4]) (t := 111) ?hr ?_; (case hd => rfl); (case hg => rfl); (case hr => first | (go_simp; done) | (go_simp; rfl)); intro qcs hg w3 hbox hb; have n0_ := qaa.mk (qar (by repeat (first | (with_reducible first | exact HB.out | apply qaf | apply qad | apply qah) | exact HB.out)) hb); have n1_ := qaa.mk (hbox); have n2_ := qaa.mk ((by rw [hg]; exact (qam (by repeat (first | (with_reducible first | exact HB.out | apply qaf | apply qad | apply qah) | exact HB.out))) : w.heap.size ≤ qcs)); have n3_ := qaa.mk ((by rw [hg]; exact (qam (by repeat (first | (with_reducible first | exact HB.out | apply qaf | apply qad | apply qah) | exact HB.out))) : w.heap.size ≤ qcs)); clear HB; have HB := n0_; have qbc := n1_; have qDo := n2_; have qgD := n3_; clear n0_ n1_ n2_ n3_; clear hb hbox hg; have qew : w3.cell? ⟨qcs, 0, none⟩ = some (.slice A0_0 l0_0.length c0_0) := (qai qbc.out 0).trans rfl; have qex : w3.cell? ⟨qcs, 1, none⟩ = some (.slice A0_1 l0_1.length c0_1) := (qai qbc.out 1).trans rfl; have qeL : w3.cell? ⟨qcs, 2, none⟩ = some (.slice A0_2 l0_2.length c0_2) := (qai qbc.out 2).trans rfl; have qnB : w3.cell? ⟨qcs, 3, none⟩ = some (.int .i64 a0_3) := (qai qbc.out 3).trans rfl; have qnC : w3.cell? ⟨qcs, 4, none⟩ = some (.int .i64 a0_4) := (qai qbc.out 4).trans rfl; have qey := qaj qbc.out 0; have qez := qaj qbc.out 1; have qeM := qaj qbc.out 2; have qnD := qaj qbc.out 3; have qnE := qaj qbc.out 4))
 (try simp only [Act.put, List.setIfInBounds_toArray, List.set_cons_zero, List.set_cons_succ])
 go_cut [4] (fun v4 wc => ∃ (kq : Nat) (x4_1 : Bool), v4 = .bool x4_1 ∧ qaa (qat.j0 kq (l0_0.length : Int) x4_1 l0_0 l0_1 l0_2 a0_3 a0_4 = some r) ∧ qaa (kq ≤ k) ∧ qaa (wc.heap[qcs]? = some (.cells #[(.slice A0_0 l0_0.length c0_0), (.slice A0_1 l0_1.length c0_1), (.slice A0_2 l0_2.length c0_2), .int .i64 a0_3, .int .i64 a0_4] 111 (0, 0))) ∧ qaa (Below w.heap.size w wc))
 case first =>
  have H := HC2.out
  clear HC2
  replace H := Option.bind_eq_some_iff.mp H
  obtain ⟨t145, A50, H⟩ := H
  replace H : (if t145 = true then (if (l0_1.length : Int) = (l0_0.length : Int) then (if (l0_2.length : Int) = (l0_0.length : Int) then ((qas.f a0_3 0 100000000).bind fun t146 => (if t146 = true then ((qas.f a0_4 0 (wrap64 ((l0_0.length : Int) - 1))).bind fun t147 => (qat.j0 k (l0_0.length : Int) t147 l0_0 l0_1 l0_2 a0_3 a0_4)) else (qat.j0 k (l0_0.length : Int) false l0_0 l0_1 l0_2 a0_3 a0_4))) else (qat.j0 k (l0_0.length : Int) false l0_0 l0_1 l0_2 a0_3 a0_4)) else (qat.j0 k (l0_0.length : Int) false l0_0 l0_1 l0_2 a0_3 a0_4)) else (qat.j0 k (l0_0.length : Int) false l0_0 l0_1 l0_2 a0_3 a0_4)) = some r := H
  have A5 := qaa.mk A50
  clear A50
  by_cases c6 : t145 = true
  ·
   subst c6
   have H1 : (if (l0_1.length : Int) = (l0_0.length : Int) then (if (l0_2.length : Int) = (l0_0.length : Int) then ((qas.f a0_3 0 100000000).bind fun t146 => (if t146 = true then ((qas.f a0_4 0 (wrap64 ((l0_0.length : Int) - 1))).bind fun t147 => (qat.j0 k (l0_0.length : Int) t147 l0_0 l0_1 l0_2 a0_3 a0_4)) else (qat.j0 k (l0_0.length : Int) false l0_0 l0_1 l0_2 a0_3 a0_4))) else (qat.j0 k (l0_0.length : Int) false l0_0 l0_1 l0_2 a0_3 a0_4)) else (qat.j0 k (l0_0.length : Int) false l0_0 l0_1 l0_2 a0_3 a0_4)) = some r := by rw [if_pos rfl] at H; exact H
   clear H
   have H := H1
   clear H1
   by_cases c7 : (l0_1.length : Int) = (l0_0.length : Int)
   ·
    rw [if_pos c7] at H; have c7b0 : ((l0_1.length : Int) == (l0_0.length : Int)) = true := beq_iff_eq.mpr c7; have c7b1 : ((l0_1.length : Int) != (l0_0.length : Int)) = false := bne_eq_false_iff_eq.mpr c7
    have c7b2 : (l0_1.length == l0_0.length) = true := by first | simpa using c7 | (simp at c7 ⊢; omega)
    clear c7
    (first | rw [c7b0] | (simp only [qaM, qaR]; rw [c7b0]) | skip)
    by_cases c8 : (l0_2.length : Int) = (l0_0.length : Int)
    ·
     rw [if_pos c8] at H; have c8b0 : ((l0_2.length : Int) == (l0_0.length : Int)) = true := beq_iff_eq.mpr c8; have c8b1 : ((l0_2.length : Int) != (l0_0.length : Int)) = false := bne_eq_false_iff_eq.mpr c8
     have c8b2 : (l0_2.length == l0_0.length) = true := by first | simpa using c8 | (simp at c8 ⊢; omega)
     clear c8; replace H := Option.bind_eq_some_iff.mp H; obtain ⟨t146, A90, H⟩ := H; replace H : (if t146 = true then ((qas.f a0_4 0 (wrap64 ((l0_0.length : Int) - 1))).bind fun t147 => (qat.j0 k (l0_0.length : Int) t147 l0_0 l0_1 l0_2 a0_3 a0_4)) else (qat.j0 k (l0_0.length : Int) false l0_0 l0_1 l0_2 a0_3 a0_4)) = some r := H; have A9 := qaa.mk A90; clear A90
     by_cases c10 : t146 = true
     ·
      subst c10
      have H1 : ((qas.f a0_4 0 (wrap64 ((l0_0.length : Int) - 1))).bind fun t147 => (qat.j0 k (l0_0.length : Int) t147 l0_0 l0_1 l0_2 a0_3 a0_4)) = some r := by rw [if_pos rfl] at H; exact H
      clear H; have H := H1; clear H1; replace H := Option.bind_eq_some_iff.mp H; obtain ⟨t147, A110, H⟩ := H; replace H : (qat.j0 k (l0_0.length : Int) t147 l0_0 l0_1 l0_2 a0_3 a0_4) = some r := H; have A11 := qaa.mk A110; clear A110; have H' := qaa.mk H; clear H
      go_wp2_with (first | ((with_reducible refine qaK (f := 65) rfl ?_); refine qbm (some 11) rfl rfl Try.func65 (by kernel_rfl) rfl #[.int .i64 (l0_0.length : Int), .int .i64 1, .int .i64 6] rfl (by (try simp only [List.map_toArray, List.map_cons, List.map_nil]); first | done | rfl | (simp only [List.length_drop, List.length_take]; rfl)) ?_; (with_reducible refine (qas.calls (l0_0.length : Int) 1 6 true _ A5.out).mono ?_); rintro e w' ⟨rfl, ⟨nd, rfl⟩⟩; refine ⟨_, rfl, ?_⟩; have qiX : w3.cell? ⟨qcs, 0, none⟩ = some (.slice A0_0 l0_0.length c0_0) := (qai qbc.out 0).trans rfl; have qiY : w3.cell? ⟨qcs, 1, none⟩ = some (.slice A0_1 l0_1.length c0_1) := (qai qbc.out 1).trans rfl; have qj9 : w3.cell? ⟨qcs, 2, none⟩ = some (.slice A0_2 l0_2.length c0_2) := (qai qbc.out 2).trans rfl; have qmg : w3.cell? ⟨qcs, 3, none⟩ = some (.int .i64 a0_3) := (qai qbc.out 3).trans rfl; have qmh : w3.cell? ⟨qcs, 4, none⟩ = some (.int .i64 a0_4) := (qai qbc.out 4).trans rfl; have qiZ := qaj qbc.out 0; have qi0 := qaj qbc.out 1; have qka := qaj qbc.out 2; have qmi := qaj qbc.out 3; have qmj := qaj qbc.out 4) | (go_at_call 65; (with_reducible refine (qas.calls a0_3 0 100000000 true _ A9.out).mono ?_); rintro e w' ⟨rfl, ⟨nd, rfl⟩⟩) | (go_at_call 65; (with_reducible refine (qas.calls a0_4 0 (wrap64 ((l0_0.length : Int) - 1)) t147 _ A11.out).mono ?_); rintro e w' ⟨rfl, ⟨nd, rfl⟩⟩))
      go_meet
      case rel => exact ⟨_, (t147), (by first | rfl | (simp; done) | (simp [*]; done)), H', ⟨by first | omega | exact Nat.le_refl _⟩, ⟨by (with_reducible repeat (first | refine qac ?_ _ | refine qae ?_ | refine qab ?_ _)); exact qbc.out⟩, ⟨by repeat (first | (with_reducible first | exact HB.out | apply qaf | apply qad | apply qah | refine qag ?_ qgD.out) | exact HB.out)⟩⟩
     replace c10 := Bool.eq_false_iff.mpr c10; subst c10
     have H1 : (qat.j0 k (l0_0.length : Int) false l0_0 l0_1 l0_2 a0_3 a0_4) = some r := by rw [if_neg (show ¬ (false = true) by decide)] at H; exact H
     clear H; have H := H1; clear H1; have H' := qaa.mk H; clear H
     go_wp2_with (first | ((with_reducible refine qaK (f := 65) rfl ?_); refine qbm (some 11) rfl rfl Try.func65 (by kernel_rfl) rfl #[.int .i64 (l0_0.length : Int), .int .i64 1, .int .i64 6] rfl (by (try simp only [List.map_toArray, List.map_cons, List.map_nil]); first | done | rfl | (simp only [List.length_drop, List.length_take]; rfl)) ?_; (with_reducible refine (qas.calls (l0_0.length : Int) 1 6 true _ A5.out).mono ?_); rintro e w' ⟨rfl, ⟨nd, rfl⟩⟩; refine ⟨_, rfl, ?_⟩; have qgu : w3.cell? ⟨qcs, 0, none⟩ = some (.slice A0_0 l0_0.length c0_0) := (qai qbc.out 0).trans rfl; have qgv : w3.cell? ⟨qcs, 1, none⟩ = some (.slice A0_1 l0_1.length c0_1) := (qai qbc.out 1).trans rfl; have qgY : w3.cell? ⟨qcs, 2, none⟩ = some (.slice A0_2 l0_2.length c0_2) := (qai qbc.out 2).trans rfl; have qmk : w3.cell? ⟨qcs, 3, none⟩ = some (.int .i64 a0_3) := (qai qbc.out 3).trans rfl; have qml : w3.cell? ⟨qcs, 4, none⟩ = some (.int .i64 a0_4) := (qai qbc.out 4).trans rfl; have qgw := qaj qbc.out 0; have qgx := qaj qbc.out 1; have qgZ := qaj qbc.out 2; have qmm := qaj qbc.out 3; have qmn := qaj qbc.out 4) | (go_at_call 65; (with_reducible refine (qas.calls a0_3 0 100000000 false _ A9.out).mono ?_); rintro e w' ⟨rfl, ⟨nd, rfl⟩⟩))
     go_meet
     case rel => exact ⟨_, (false), (by first | rfl | (simp; done) | (simp [*]; done)), H', ⟨by first | omega | exact Nat.le_refl _⟩, ⟨by (with_reducible repeat (first | refine qac ?_ _ | refine qae ?_ | refine qab ?_ _)); exact qbc.out⟩, ⟨by repeat (first | (with_reducible first | exact HB.out | apply qaf | apply qad | apply qah | refine qag ?_ qgD.out) | exact HB.out)⟩⟩
    rw [if_neg c8] at H; have c8b0 : ((l0_2.length : Int) == (l0_0.length : Int)) = false := beq_eq_false_iff_ne.mpr c8; have c8b1 : ((l0_2.length : Int) != (l0_0.length : Int)) = true := bne_iff_ne.mpr c8
    have c8b2 : (l0_2.length == l0_0.length) = false := by first | simpa using c8 | (simp at c8 ⊢; omega)
    have H' := qaa.mk H; clear H
    go_wp2_with (first | ((with_reducible refine qaK (f := 65) rfl ?_); refine qbm (some 11) rfl rfl Try.func65 (by kernel_rfl) rfl #[.int .i64 (l0_0.length : Int), .int .i64 1, .int .i64 6] rfl (by (try simp only [List.map_toArray, List.map_cons, List.map_nil]); first | done | rfl | (simp only [List.length_drop, List.length_take]; rfl)) ?_; (with_reducible refine (qas.calls (l0_0.length : Int) 1 6 true _ A5.out).mono ?_); rintro e w' ⟨rfl, ⟨nd, rfl⟩⟩; refine ⟨_, rfl, ?_⟩; have qf9 : w3.cell? ⟨qcs, 0, none⟩ = some (.slice A0_0 l0_0.length c0_0) := (qai qbc.out 0).trans rfl; have qga : w3.cell? ⟨qcs, 1, none⟩ = some (.slice A0_1 l0_1.length c0_1) := (qai qbc.out 1).trans rfl; have qgK : w3.cell? ⟨qcs, 2, none⟩ = some (.slice A0_2 l0_2.length c0_2) := (qai qbc.out 2).trans rfl; have qmo : w3.cell? ⟨qcs, 3, none⟩ = some (.int .i64 a0_3) := (qai qbc.out 3).trans rfl; have qmp : w3.cell? ⟨qcs, 4, none⟩ = some (.int .i64 a0_4) := (qai qbc.out 4).trans rfl; have qgb := qaj qbc.out 0; have qgc := qaj qbc.out 1; have qgL := qaj qbc.out 2; have qmq := qaj qbc.out 3; have qmr := qaj qbc.out 4))
    go_meet
    case rel => exact ⟨_, (false), (by first | rfl | (simp; done) | (simp [*]; done)), H', ⟨by first | omega | exact Nat.le_refl _⟩, ⟨by (with_reducible repeat (first | refine qac ?_ _ | refine qae ?_ | refine qab ?_ _)); exact qbc.out⟩, ⟨by repeat (first | (with_reducible first | exact HB.out | apply qaf | apply qad | apply qah | refine qag ?_ qgD.out) | exact HB.out)⟩⟩
   rw [if_neg c7] at H
   have c7b0 : ((l0_1.length : Int) == (l0_0.length : Int)) = false := beq_eq_false_iff_ne.mpr c7
   have c7b1 : ((l0_1.length : Int) != (l0_0.length : Int)) = true := bne_iff_ne.mpr c7
   have c7b2 : (l0_1.length == l0_0.length) = false := by first | simpa using c7 | (simp at c7 ⊢; omega)
   (first | rw [c7b0] | (simp only [qaM, qaR]; rw [c7b0]) | skip)
   have H' := qaa.mk H
   clear H
   go_wp2_with (first | ((with_reducible refine qaK (f := 65) rfl ?_); refine qbm (some 11) rfl rfl Try.func65 (by kernel_rfl) rfl #[.int .i64 (l0_0.length : Int), .int .i64 1, .int .i64 6] rfl (by (try simp only [List.map_toArray, List.map_cons, List.map_nil]); first | done | rfl | (simp only [List.length_drop, List.length_take]; rfl)) ?_; (with_reducible refine (qas.calls (l0_0.length : Int) 1 6 true _ A5.out).mono ?_); rintro e w' ⟨rfl, ⟨nd, rfl⟩⟩; refine ⟨_, rfl, ?_⟩; have qgo : w3.cell? ⟨qcs, 0, none⟩ = some (.slice A0_0 l0_0.length c0_0) := (qai qbc.out 0).trans rfl; have qgp : w3.cell? ⟨qcs, 1, none⟩ = some (.slice A0_1 l0_1.length c0_1) := (qai qbc.out 1).trans rfl; have qg0 : w3.cell? ⟨qcs, 2, none⟩ = some (.slice A0_2 l0_2.length c0_2) := (qai qbc.out 2).trans rfl; have qg1 : w3.cell? ⟨qcs, 3, none⟩ = some (.int .i64 a0_3) := (qai qbc.out 3).trans rfl; have qg2 : w3.cell? ⟨qcs, 4, none⟩ = some (.int .i64 a0_4) := (qai qbc.out 4).trans rfl; have qgq := qaj qbc.out 0; have qgr := qaj qbc.out 1; have qg3 := qaj qbc.out 2; have qg4 := qaj qbc.out 3; have qg5 := qaj qbc.out 4))
   go_meet
   case rel => exact ⟨_, (false), (by first | rfl | (simp; done) | (simp [*]; done)), H', ⟨by first | omega | exact Nat.le_refl _⟩, ⟨by (with_reducible repeat (first | refine qac ?_ _ | refine qae ?_ | refine qab ?_ _)); exact qbc.out⟩, ⟨by repeat (first | (with_reducible first | exact HB.out | apply qaf | apply qad | apply qah | refine qag ?_ qgD.out) | exact HB.out)⟩⟩
  replace c6 := Bool.eq_false_iff.mpr c6
  subst c6
  have H1 : (qat.j0 k (l0_0.length : Int) false l0_0 l0_1 l0_2 a0_3 a0_4) = some r := by rw [if_neg (show ¬ (false = true) by decide)] at H; exact H
  clear H
  have H := H1
  clear H1
  have H' := qaa.mk H
  clear H
  go_wp2_with (first | ((with_reducible refine qaK (f := 65) rfl ?_); refine qbm (some 11) rfl rfl Try.func65 (by kernel_rfl) rfl #[.int .i64 (l0_0.length : Int), .int .i64 1, .int .i64 6] rfl (by (try simp only [List.map_toArray, List.map_cons, List.map_nil]); first | done | rfl | (simp only [List.length_drop, List.length_take]; rfl)) ?_; (with_reducible refine (qas.calls (l0_0.length : Int) 1 6 false _ A5.out).mono ?_); rintro e w' ⟨rfl, ⟨nd, rfl⟩⟩; refine ⟨_, rfl, ?_⟩))
  go_meet
  case rel => exact ⟨_, (false), (by first | rfl | (simp; done) | (simp [*]; done)), H', ⟨by first | omega | exact Nat.le_refl _⟩, ⟨by (with_reducible repeat (first | refine qac ?_ _ | refine qae ?_ | refine qab ?_ _)); exact qbc.out⟩, ⟨by repeat (first | (with_reducible first | exact HB.out | apply qaf | apply qad | apply qah | refine qag ?_ qgD.out) | exact HB.out)⟩⟩
 case rest =>
  clear HC2
  try clear c1
  try clear p2
  try clear c6
  try clear p6
  try clear c7
  try clear c7b0
  try clear c7b1
  try clear c7b2
  try clear c8
  try clear c8b0
  try clear c8b1
  try clear c8b2
  try clear c10
  try clear qiX
  try clear qiY
  try clear qj9
  try clear qmg
  try clear qmh
  try clear qgu
  try clear qgv
  try clear qgY
  try clear qmk
  try clear qml
  try clear qf9
  try clear qga
  try clear qgK
  try clear qmo
  try clear qmp
  try clear qgo
  try clear qgp
  try clear qg0
  try clear qg1
  try clear qg2
  try clear qew
  try clear qex
  try clear qeL
  try clear qnB
  try clear qnC
  try clear qiZ
  try clear qi0
  try clear qka
  try clear qmi
  try clear qmj
  try clear qgw
  try clear qgx
  try clear qgZ
  try clear qmm
  try clear qmn
  try clear qgb
  try clear qgc
  try clear qgL
  try clear qmq
  try clear qmr
  try clear qgq
  try clear qgr
  try clear qg3
  try clear qg4
  try clear qg5
  try clear qey
  try clear qez
  try clear qeM
  try clear qnD
  try clear qnE
  obtain ⟨kq, x4_1, rfl, HA, HJ1, qbc, HB⟩ := hcut
  cases kq with
  | zero => exact absurd HA.out (by simp [qat.j0])
  | succ kj1 =>
   have H := HA.out
   clear HA
   simp only [qat.j0] at H
   have H' := qaa.mk H
   clear H
   go_wp2
   go_loopg [4, 5] kj1 (fun kq v4 v5 w' => ∃ (x4_2 : Bool) (x5_2 : Int), v4 = .bool x4_2 ∧ v5 = .int .i64 x5_2 ∧ qaa (qat.l0 kq (l0_0.length : Int) x4_2 x5_2 l0_0 l0_1 l0_2 a0_3 a0_4 = some r) ∧ qaa (kq ≤ kj1) ∧ qaa (w'.heap[qcs]? = some (.cells #[(.slice A0_0 l0_0.length c0_0), (.slice A0_1 l0_1.length c0_1), (.slice A0_2 l0_2.length c0_2), .int .i64 a0_3, .int .i64 a0_4] 111 (0, 0))) ∧ qaa (Below w.heap.size w w'))
   case atStart => exact ⟨(x4_1), (0), (by first | rfl | (simp; done) | (simp [*]; done)), (by first | rfl | (simp; done) | (simp [*]; done)), H', ⟨Nat.le_refl _⟩, ⟨by (with_reducible repeat (first | refine qac ?_ _ | refine qae ?_ | refine qab ?_ _)); exact qbc.out⟩, ⟨by repeat (first | (with_reducible first | exact HB.out | apply qaf | apply qad | apply qah | refine qag ?_ qgD.out) | exact HB.out)⟩⟩
   case round =>
    clear H'; (try clear c1); (try clear p2); (try clear c6); (try clear p6); (try clear c7); (try clear c7b0); (try clear c7b1); (try clear c7b2); (try clear c8); (try clear c8b0); (try clear c8b1); (try clear c8b2); (try clear c10); (try clear qiX); (try clear qiY); (try clear qj9); (try clear qmg); (try clear qmh); (try clear qgu); (try clear qgv); (try clear qgY); (try clear qmk); (try clear qml); (try clear qf9); (try clear qga); (try clear qgK); (try clear qmo); (try clear qmp); (try clear qgo); (try clear qgp); (try clear qg0); (try clear qg1); (try clear qg2); (try clear qew); (try clear qex); (try clear qeL); (try clear qnB); (try clear qnC); (try clear qiZ); (try clear qi0); (try clear qka); (try clear qmi); (try clear qmj); (try clear qgw); (try clear qgx); (try clear qgZ); (try clear qmm); (try clear qmn); (try clear qgb); (try clear qgc); (try clear qgL); (try clear qmq); (try clear qmr); (try clear qgq); (try clear qgr); (try clear qg3); (try clear qg4); (try clear qg5); (try clear qey); (try clear qez); (try clear qeM); (try clear qnD); (try clear qnE); (try clear p2); (try clear p6); obtain ⟨x4_2, x5_2, rfl, rfl, HA, HK2, qbc, HB⟩ := hrel
    cases gk with
    | zero => exact absurd HA.out (by simp [qat.l0])
    | succ k2 =>
     have H := HA.out; clear HA; simp only [qat.l0] at H; have HC16 := qaa.mk H; clear H
     go_upto_region 4 with (fail)
     go_cut [47] (fun v47 wc => ∃ (kq : Nat) (qld : Bool), v47 = .bool qld ∧ qaa (qat.j2 kq (l0_0.length : Int) x4_2 x5_2 qld l0_0 l0_1 l0_2 a0_3 a0_4 = some r) ∧ qaa (kq ≤ k2) ∧ qaa (wc.heap[qcs]? = some (.cells #[(.slice A0_0 l0_0.length c0_0), (.slice A0_1 l0_1.length c0_1), (.slice A0_2 l0_2.length c0_2), .int .i64 a0_3, .int .i64 a0_4] 111 (0, 0))) ∧ qaa (Below w.heap.size w wc))
     case first =>
      have H := HC16.out; clear HC16
      by_cases c17 : x4_2 = true
      ·
       subst c17
       have H1 : (qat.j2 k2 (l0_0.length : Int) true x5_2 (decide (x5_2 < (l0_0.length : Int))) l0_0 l0_1 l0_2 a0_3 a0_4) = some r := by rw [if_pos rfl] at H; exact H
       clear H; have H := H1; clear H1; have H' := qaa.mk H; clear H
       go_wp2
       go_meet
       case rel => exact ⟨_, (decide (x5_2 < (l0_0.length : Int))), (by first | rfl | (simp; done) | (simp [*]; done)), H', ⟨by have := HJ1.out; have := HK2.out; first | omega | exact Nat.le_refl _⟩, ⟨by (with_reducible repeat (first | refine qac ?_ _ | refine qae ?_ | refine qab ?_ _)); exact qbc.out⟩, ⟨by repeat (first | (with_reducible first | exact HB.out | apply qaf | apply qad | apply qah | refine qag ?_ qgD.out) | exact HB.out)⟩⟩
      replace c17 := Bool.eq_false_iff.mpr c17; subst c17
      have H1 : (qat.j2 k2 (l0_0.length : Int) false x5_2 false l0_0 l0_1 l0_2 a0_3 a0_4) = some r := by rw [if_neg (show ¬ (false = true) by decide)] at H; exact H
      clear H; have H := H1; clear H1; have H' := qaa.mk H; clear H
      go_wp2
      go_meet
      case rel => exact ⟨_, (false), (by first | rfl | (simp; done) | (simp [*]; done)), H', ⟨by have := HJ1.out; have := HK2.out; first | omega | exact Nat.le_refl _⟩, ⟨by (with_reducible repeat (first | refine qac ?_ _ | refine qae ?_ | refine qab ?_ _)); exact qbc.out⟩, ⟨by repeat (first | (with_reducible first | exact HB.out | apply qaf | apply qad | apply qah | refine qag ?_ qgD.out) | exact HB.out)⟩⟩
     case rest =>
      clear HC16; (try clear c1); (try clear p2); (try clear c6); (try clear p6); (try clear c7); (try clear c7b0); (try clear c7b1); (try clear c7b2); (try clear c8); (try clear c8b0); (try clear c8b1); (try clear c8b2); (try clear c10); (try clear c17); (try clear qiX); (try clear qiY); (try clear qj9); (try clear qmg); (try clear qmh); (try clear qgu); (try clear qgv); (try clear qgY); (try clear qmk); (try clear qml); (try clear qf9); (try clear qga); (try clear qgK); (try clear qmo); (try clear qmp); (try clear qgo); (try clear qgp); (try clear qg0); (try clear qg1); (try clear qg2); (try clear qew); (try clear qex); (try clear qeL); (try clear qnB); (try clear qnC); (try clear qiZ); (try clear qi0); (try clear qka); (try clear qmi); (try clear qmj); (try clear qgw); (try clear qgx); (try clear qgZ); (try clear qmm); (try clear qmn); (try clear qgb); (try clear qgc); (try clear qgL); (try clear qmq); (try clear qmr); (try clear qgq); (try clear qgr); (try clear qg3); (try clear qg4); (try clear qg5); (try clear qey); (try clear qez); (try clear qeM); (try clear qnD); (try clear qnE); (try clear p2); (try clear p6); obtain ⟨kq, qld, rfl, HA, HJ15, qbc, HB⟩ := hcut
      cases kq with
      | zero => exact absurd HA.out (by simp [qat.j2])
      | succ kj15 =>
       have H := HA.out; clear HA; simp only [qat.j2] at H
       by_cases c18 : qld = true
       ·
        subst c18
        have H1 : (if 0 ≤ x5_2 then (if x5_2 < (l0_0.length : Int) then ((qas.f (rd l0_0 x5_2) 0 100000).bind fun t149 => (if t149 = true then (if x5_2 < (l0_1.length : Int) then ((qas.f (rd l0_1 x5_2) 0 1000).bind fun t151 => (if t151 = true then (if x5_2 < (l0_2.length : Int) then ((qas.f (rd l0_2 x5_2) 0 100).bind fun t153 => (qat.l0 kj15 (l0_0.length : Int) t153 (wrap64 (x5_2 + 1)) l0_0 l0_1 l0_2 a0_3 a0_4)) else (none)) else (qat.l0 kj15 (l0_0.length : Int) false (wrap64 (x5_2 + 1)) l0_0 l0_1 l0_2 a0_3 a0_4))) else (none)) else (qat.l0 kj15 (l0_0.length : Int) false (wrap64 (x5_2 + 1)) l0_0 l0_1 l0_2 a0_3 a0_4))) else (none)) else (none)) = some r := by rw [if_pos rfl] at H; exact H
        clear H; have H := H1; clear H1
        by_cases c19 : 0 ≤ x5_2
        ·
         rw [if_pos c19] at H; have c19b0 : decide (0 ≤ x5_2) = true := decide_eq_true c19; clear c19
         by_cases c20 : x5_2 < (l0_0.length : Int)
         ·
          rw [if_pos c20] at H; have c20b0 : decide (x5_2 < (l0_0.length : Int)) = true := decide_eq_true c20; clear c20; replace H := Option.bind_eq_some_iff.mp H; obtain ⟨t149, A210, H⟩ := H; replace H : (if t149 = true then (if x5_2 < (l0_1.length : Int) then ((qas.f (rd l0_1 x5_2) 0 1000).bind fun t151 => (if t151 = true then (if x5_2 < (l0_2.length : Int) then ((qas.f (rd l0_2 x5_2) 0 100).bind fun t153 => (qat.l0 kj15 (l0_0.length : Int) t153 (wrap64 (x5_2 + 1)) l0_0 l0_1 l0_2 a0_3 a0_4)) else (none)) else (qat.l0 kj15 (l0_0.length : Int) false (wrap64 (x5_2 + 1)) l0_0 l0_1 l0_2 a0_3 a0_4))) else (none)) else (qat.l0 kj15 (l0_0.length : Int) false (wrap64 (x5_2 + 1)) l0_0 l0_1 l0_2 a0_3 a0_4)) = some r := H; have A21 := qaa.mk A210; clear A210
          by_cases c22 : t149 = true
          ·
           subst c22
           have H1 : (if x5_2 < (l0_1.length : Int) then ((qas.f (rd l0_1 x5_2) 0 1000).bind fun t151 => (if t151 = true then (if x5_2 < (l0_2.length : Int) then ((qas.f (rd l0_2 x5_2) 0 100).bind fun t153 => (qat.l0 kj15 (l0_0.length : Int) t153 (wrap64 (x5_2 + 1)) l0_0 l0_1 l0_2 a0_3 a0_4)) else (none)) else (qat.l0 kj15 (l0_0.length : Int) false (wrap64 (x5_2 + 1)) l0_0 l0_1 l0_2 a0_3 a0_4))) else (none)) = some r := by rw [if_pos rfl] at H; exact H
           clear H; have H := H1; clear H1
           by_cases c23 : x5_2 < (l0_1.length : Int)
           ·
            rw [if_pos c23] at H; have c23b0 : decide (x5_2 < (l0_1.length : Int)) = true := decide_eq_true c23; clear c23; replace H := Option.bind_eq_some_iff.mp H; obtain ⟨t151, A240, H⟩ := H; replace H : (if t151 = true then (if x5_2 < (l0_2.length : Int) then ((qas.f (rd l0_2 x5_2) 0 100).bind fun t153 => (qat.l0 kj15 (l0_0.length : Int) t153 (wrap64 (x5_2 + 1)) l0_0 l0_1 l0_2 a0_3 a0_4)) else (none)) else (qat.l0 kj15 (l0_0.length : Int) false (wrap64 (x5_2 + 1)) l0_0 l0_1 l0_2 a0_3 a0_4)) = some r := H; have A24 := qaa.mk A240; clear A240
            by_cases c25 : t151 = true
            ·
             subst c25
             have H1 : (if x5_2 < (l0_2.length : Int) then ((qas.f (rd l0_2 x5_2) 0 100).bind fun t153 => (qat.l0 kj15 (l0_0.length : Int) t153 (wrap64 (x5_2 + 1)) l0_0 l0_1 l0_2 a0_3 a0_4)) else (none)) = some r := by rw [if_pos rfl] at H; exact H
             clear H; have H := H1; clear H1
             by_cases c26 : x5_2 < (l0_2.length : Int)
             ·
              rw [if_pos c26] at H; have c26b0 : decide (x5_2 < (l0_2.length : Int)) = true := decide_eq_true c26; clear c26; replace H := Option.bind_eq_some_iff.mp H; obtain ⟨t153, A270, H⟩ := H; replace H : (qat.l0 kj15 (l0_0.length : Int) t153 (wrap64 (x5_2 + 1)) l0_0 l0_1 l0_2 a0_3 a0_4) = some r := H; have A27 := qaa.mk A270; clear A270; have H' := qaa.mk H; clear H; have qhZ : wc.cell? ⟨qcs, 0, none⟩ = some (.slice A0_0 l0_0.length c0_0) := (qai qbc.out 0).trans rfl; have qh0 : wc.cell? ⟨qcs, 1, none⟩ = some (.slice A0_1 l0_1.length c0_1) := (qai qbc.out 1).trans rfl; have qxj : wc.cell? ⟨qcs, 2, none⟩ = some (.slice A0_2 l0_2.length c0_2) := (qai qbc.out 2).trans rfl; have qxk : wc.cell? ⟨qcs, 3, none⟩ = some (.int .i64 a0_3) := (qai qbc.out 3).trans rfl; have qxl : wc.cell? ⟨qcs, 4, none⟩ = some (.int .i64 a0_4) := (qai qbc.out 4).trans rfl; have qh1 := qaj qbc.out 0; have qh2 := qaj qbc.out 1; have qxm := qaj qbc.out 2; have qxn := qaj qbc.out 3; have qxo := qaj qbc.out 4; have p148 : 0 ≤ (x5_2 : Int) := of_decide_eq_true (by first | (with_reducible assumption) | assumption); have q148 : x5_2 < (l0_0.length : Int) := of_decide_eq_true (by first | (with_reducible assumption) | assumption); obtain ⟨qqE, e148, qfp⟩ := Kd.at_int qda.out x5_2 p148 q148; cases e148; replace qfp := (HB.out.cell (World.block_lt_of_cell? w _ qfp)).trans qfp; replace p148 := eq_true p148; replace q148 := eq_true q148
              go_wp2_with (first | ((with_reducible refine qaK (f := 65) rfl ?_); refine qbm (some 56) rfl rfl Try.func65 (by kernel_rfl) rfl #[.int .i64 (rd l0_0 x5_2), .int .i64 0, .int .i64 100000] rfl (by (try simp only [List.map_toArray, List.map_cons, List.map_nil]); first | done | rfl | (simp only [List.length_drop, List.length_take]; rfl)) ?_; (with_reducible refine (qas.calls (rd l0_0 x5_2) 0 100000 true _ A21.out).mono ?_); rintro e w' ⟨rfl, ⟨nd, rfl⟩⟩; refine ⟨_, rfl, ?_⟩; have p150 : 0 ≤ (x5_2 : Int) := of_decide_eq_true (by first | (with_reducible assumption) | assumption); have q150 : x5_2 < (l0_1.length : Int) := of_decide_eq_true (by first | (with_reducible assumption) | assumption); obtain ⟨quy, e150, qho⟩ := Kd.at_int qde.out x5_2 p150 q150; cases e150; replace qho := (HB.out.cell (World.block_lt_of_cell? w _ qho)).trans qho; replace p150 := eq_true p150; replace q150 := eq_true q150) | (go_at_call 65; (with_reducible refine (qas.calls (rd l0_1 x5_2) 0 1000 true _ A24.out).mono ?_); rintro e w' ⟨rfl, ⟨nd, rfl⟩⟩; have p152 : 0 ≤ (x5_2 : Int) := of_decide_eq_true (by first | (with_reducible assumption) | assumption); have q152 : x5_2 < (l0_2.length : Int) := of_decide_eq_true (by first | (with_reducible assumption) | assumption); obtain ⟨qDp, e152, qms⟩ := Kd.at_int qdf.out x5_2 p152 q152; cases e152; replace qms := (HB.out.cell (World.block_lt_of_cell? w _ qms)).trans qms; replace p152 := eq_true p152; replace q152 := eq_true q152) | (go_at_call 65; (with_reducible refine (qas.calls (rd l0_2 x5_2) 0 100 t153 _ A27.out).mono ?_); rintro e w' ⟨rfl, ⟨nd, rfl⟩⟩))
              go_roundg kj15
              case measure => have := HJ1.out; have := HK2.out; have := HJ15.out; omega
              case rel => exact ⟨(t153), (wrap64 (x5_2 + 1)), (by first | rfl | (simp; done) | (simp [*]; done)), (by first | rfl | (simp; done) | (simp [*]; done)), H', ⟨by have := HJ1.out; have := HK2.out; have := HJ15.out; omega⟩, ⟨by (with_reducible repeat (first | refine qac ?_ _ | refine qae ?_ | refine qab ?_ _)); exact qbc.out⟩, ⟨by repeat (first | (with_reducible first | exact HB.out | apply qaf | apply qad | apply qah | refine qag ?_ qgD.out) | exact HB.out)⟩⟩
             rw [if_neg c26] at H
             exact absurd H (by simp)
            replace c25 := Bool.eq_false_iff.mpr c25; subst c25
            have H1 : (qat.l0 kj15 (l0_0.length : Int) false (wrap64 (x5_2 + 1)) l0_0 l0_1 l0_2 a0_3 a0_4) = some r := by rw [if_neg (show ¬ (false = true) by decide)] at H; exact H
            clear H; have H := H1; clear H1; have H' := qaa.mk H; clear H; have qsb : wc.cell? ⟨qcs, 0, none⟩ = some (.slice A0_0 l0_0.length c0_0) := (qai qbc.out 0).trans rfl; have qsc : wc.cell? ⟨qcs, 1, none⟩ = some (.slice A0_1 l0_1.length c0_1) := (qai qbc.out 1).trans rfl; have qsd : wc.cell? ⟨qcs, 2, none⟩ = some (.slice A0_2 l0_2.length c0_2) := (qai qbc.out 2).trans rfl; have qxp : wc.cell? ⟨qcs, 3, none⟩ = some (.int .i64 a0_3) := (qai qbc.out 3).trans rfl; have qxq : wc.cell? ⟨qcs, 4, none⟩ = some (.int .i64 a0_4) := (qai qbc.out 4).trans rfl; have qse := qaj qbc.out 0; have qsf := qaj qbc.out 1; have qsg := qaj qbc.out 2; have qxr := qaj qbc.out 3; have qxs := qaj qbc.out 4; have p148 : 0 ≤ (x5_2 : Int) := of_decide_eq_true (by first | (with_reducible assumption) | assumption); have q148 : x5_2 < (l0_0.length : Int) := of_decide_eq_true (by first | (with_reducible assumption) | assumption); obtain ⟨qqE, e148, qfp⟩ := Kd.at_int qda.out x5_2 p148 q148; cases e148; replace qfp := (HB.out.cell (World.block_lt_of_cell? w _ qfp)).trans qfp; replace p148 := eq_true p148; replace q148 := eq_true q148
            go_wp2_with (first | ((with_reducible refine qaK (f := 65) rfl ?_); refine qbm (some 56) rfl rfl Try.func65 (by kernel_rfl) rfl #[.int .i64 (rd l0_0 x5_2), .int .i64 0, .int .i64 100000] rfl (by (try simp only [List.map_toArray, List.map_cons, List.map_nil]); first | done | rfl | (simp only [List.length_drop, List.length_take]; rfl)) ?_; (with_reducible refine (qas.calls (rd l0_0 x5_2) 0 100000 true _ A21.out).mono ?_); rintro e w' ⟨rfl, ⟨nd, rfl⟩⟩; refine ⟨_, rfl, ?_⟩; have p150 : 0 ≤ (x5_2 : Int) := of_decide_eq_true (by first | (with_reducible assumption) | assumption); have q150 : x5_2 < (l0_1.length : Int) := of_decide_eq_true (by first | (with_reducible assumption) | assumption); obtain ⟨quy, e150, qho⟩ := Kd.at_int qde.out x5_2 p150 q150; cases e150; replace qho := (HB.out.cell (World.block_lt_of_cell? w _ qho)).trans qho; replace p150 := eq_true p150; replace q150 := eq_true q150) | (go_at_call 65; (with_reducible refine (qas.calls (rd l0_1 x5_2) 0 1000 false _ A24.out).mono ?_); rintro e w' ⟨rfl, ⟨nd, rfl⟩⟩))
            go_roundg kj15
            case measure => have := HJ1.out; have := HK2.out; have := HJ15.out; omega
            case rel => exact ⟨(false), (wrap64 (x5_2 + 1)), (by first | rfl | (simp; done) | (simp [*]; done)), (by first | rfl | (simp; done) | (simp [*]; done)), H', ⟨by have := HJ1.out; have := HK2.out; have := HJ15.out; omega⟩, ⟨by (with_reducible repeat (first | refine qac ?_ _ | refine qae ?_ | refine qab ?_ _)); exact qbc.out⟩, ⟨by repeat (first | (with_reducible first | exact HB.out | apply qaf | apply qad | apply qah | refine qag ?_ qgD.out) | exact HB.out)⟩⟩
           rw [if_neg c23] at H
           exact absurd H (by simp)
          replace c22 := Bool.eq_false_iff.mpr c22; subst c22
          have H1 : (qat.l0 kj15 (l0_0.length : Int) false (wrap64 (x5_2 + 1)) l0_0 l0_1 l0_2 a0_3 a0_4) = some r := by rw [if_neg (show ¬ (false = true) by decide)] at H; exact H
          clear H; have H := H1; clear H1; have H' := qaa.mk H; clear H; have qxt : wc.cell? ⟨qcs, 0, none⟩ = some (.slice A0_0 l0_0.length c0_0) := (qai qbc.out 0).trans rfl; have qxu : wc.cell? ⟨qcs, 1, none⟩ = some (.slice A0_1 l0_1.length c0_1) := (qai qbc.out 1).trans rfl; have qxv : wc.cell? ⟨qcs, 2, none⟩ = some (.slice A0_2 l0_2.length c0_2) := (qai qbc.out 2).trans rfl; have qxw : wc.cell? ⟨qcs, 3, none⟩ = some (.int .i64 a0_3) := (qai qbc.out 3).trans rfl; have qxx : wc.cell? ⟨qcs, 4, none⟩ = some (.int .i64 a0_4) := (qai qbc.out 4).trans rfl; have qxy := qaj qbc.out 0; have qxz := qaj qbc.out 1; have qxA := qaj qbc.out 2; have qxB := qaj qbc.out 3; have qxC := qaj qbc.out 4; have p148 : 0 ≤ (x5_2 : Int) := of_decide_eq_true (by first | (with_reducible assumption) | assumption); have q148 : x5_2 < (l0_0.length : Int) := of_decide_eq_true (by first | (with_reducible assumption) | assumption); obtain ⟨qqE, e148, qfp⟩ := Kd.at_int qda.out x5_2 p148 q148; cases e148; replace qfp := (HB.out.cell (World.block_lt_of_cell? w _ qfp)).trans qfp; replace p148 := eq_true p148; replace q148 := eq_true q148
          go_wp2_with (first | ((with_reducible refine qaK (f := 65) rfl ?_); refine qbm (some 56) rfl rfl Try.func65 (by kernel_rfl) rfl #[.int .i64 (rd l0_0 x5_2), .int .i64 0, .int .i64 100000] rfl (by (try simp only [List.map_toArray, List.map_cons, List.map_nil]); first | done | rfl | (simp only [List.length_drop, List.length_take]; rfl)) ?_; (with_reducible refine (qas.calls (rd l0_0 x5_2) 0 100000 false _ A21.out).mono ?_); rintro e w' ⟨rfl, ⟨nd, rfl⟩⟩; refine ⟨_, rfl, ?_⟩))
          go_roundg kj15
          case measure => have := HJ1.out; have := HK2.out; have := HJ15.out; omega
          case rel => exact ⟨(false), (wrap64 (x5_2 + 1)), (by first | rfl | (simp; done) | (simp [*]; done)), (by first | rfl | (simp; done) | (simp [*]; done)), H', ⟨by have := HJ1.out; have := HK2.out; have := HJ15.out; omega⟩, ⟨by (with_reducible repeat (first | refine qac ?_ _ | refine qae ?_ | refine qab ?_ _)); exact qbc.out⟩, ⟨by repeat (first | (with_reducible first | exact HB.out | apply qaf | apply qad | apply qah | refine qag ?_ qgD.out) | exact HB.out)⟩⟩
         rw [if_neg c20] at H
         exact absurd H (by simp)
        rw [if_neg c19] at H
        exact absurd H (by simp)
       replace c18 := Bool.eq_false_iff.mpr c18; subst c18
       have H1 : (some x4_2) = some r := by rw [if_neg (show ¬ (false = true) by decide)] at H; exact H
       clear H; have H := H1; clear H1; obtain rfl := Option.some.inj H
       go_wp2
       go_ret
       exact ⟨by first | rfl | (simp [qaG, qaH] <;> rfl) | (simp [*, qaG, qaH] <;> rfl), by repeat (first | (with_reducible first | exact HB.out | apply qaf | apply qad | apply qah | refine qag ?_ qgD.out) | exact HB.out)⟩
end Go.Proofs.Ytmhomdohhihlcaa.P
namespace Go.Proofs.Ytmhomdohhihlcaa.P
open Go.RowKit Go.Proofs.YtmhomdohhihlcaaW.PrintWords Go.Proofs.YtmhomdohhihlcaaW.PrintLast Go.Proofs.YtmhomdohhihlcaaW.PrintMore
set_option maxRecDepth 100000 in
theorem qcy.calls6 (A0 : Option Addr) (c0 : Nat) (l0 : List Int) (A1 : Option Addr) (c1 n1 : Nat) (A2 : Option Addr) (c2 n2 : Nat) (a3 a4 : Int) (w : World) (hr0 : Kd.C (Kd.int .i64) w A0 l0.length l0) (hl : l0.length ≤ 6) :
  Calls Try.prog 78 #[.agg #[.slice A0 l0.length c0, .slice A1 n1 c1, .slice A2 n2 c2, .int .i64 a3, .int .i64 a4]] w fun e w' => e = .returned (.agg (ar6 l0).toArray) ∧ Below w.heap.size w w' := by
 have hu := Try.underlying111
 have hu2 := Try.underlying39
 have hu3 := Try.underlying115
 have HL := qaa.mk hl
 have HR0 := qaa.mk hr0
 clear hr0 hl
 go_enter Try.func78, Try.ntmps78
 go_wp2
 go_region_law (refine step_copy_splice rfl (.tmp 4) (.tmp 7) 37 37 rfl 3 Try.underlying37 (by kernel_rfl) (some ⟨w.heap.size + 1 + 1, 0, none⟩) A0 6 6 l0.length c0 rfl rfl (w.heap.size + 1 + 1) 0 (ar6 []) 115 ?c1 (l0.map (Value.int .i64)) (qrA HL.out) ?c2 ?c3 (qrt l0) (w.heap.size + 2) _ (Below.refl _ _) (Nat.le_refl _) ?_; (case c1 => exact qae (by have h := qgH (((w.alloc (.cells #[.slice A0 l0.length c0, .slice A1 n1 c1, .slice A2 n2 c2, .int .i64 a3, .int .i64 a4] 111)).alloc (.cells (ar6 []).toArray 115))) (.cells (ar6 []).toArray 115); simp only [World.size_alloc] at h; exact h)); (case c2 => exact fun h0 => ⟨rfl, qiJ HR0.out (by repeat (first | exact Below.refl _ _ | apply qbs | apply qaf)) h0⟩); (case c3 => simpa [ar6] using HL.out); intro w4 hg4 hb4)
 have HG := qaa.mk (show Is6 w4 (w.heap.size + 1 + 1) l0 by have h := hg4; unfold Hid at h; rw [qo1 l0 HL.out] at h; exact h)
 have HZ : Is6 w4 (w.heap.size + 1) [] := (hb4.block (w.heap.size + 1) (by omega)).trans (qae (qab (by have h := qgH (w.alloc (.cells #[.slice A0 l0.length c0, .slice A1 n1 c1, .slice A2 n2 c2, .int .i64 a3, .int .i64 a4] 111)) (.cells (ar6 []).toArray 115); simp only [World.size_alloc] at h; exact h) _))
 have HZ := qaa.mk HZ
 have HB := qaa.mk (show Below w.heap.size w w4 from (qbs (qaf (qaf (qaf (Below.refl w.heap.size w) _) _) _)).trans (hb4.mono (by omega)))
 clear hg4 hb4
 obtain ⟨g0, g1, g2, g3, g4, g5⟩ := HG.out.cells
 obtain ⟨z0, z1, z2, z3, z4, z5⟩ := HZ.out.cells
 obtain ⟨f0, f1, f2, f3, f4, f5⟩ := HZ.out.frozen
 go_wp2
 refine bodyPost_ret (results_cell_row rfl _ _ (w.heap.size + 1) 115 (ar6 l0).toArray (0, 0) _ rfl (HZ.out.put6 l0) Try.underlying115 rfl (by kernel_rfl)) rfl ?_
 refine ⟨rfl, ?_⟩
 have h1 : w.heap.size ≤ w.heap.size + 1 := by omega
 repeat (with_reducible first | exact HB.out | refine qag ?_ h1)
def qcy.f (l0_0 l0_1 l0_2 : List Int) (a0_3 a0_4 : Int) : Option (Int × Int × Int × Int × Int × Int) :=
 if l0_0.length ≤ 6 then some (rd l0_0 0, rd l0_0 1, rd l0_0 2, rd l0_0 3, rd l0_0 4, rd l0_0 5) else none
theorem qcy.calls (A0_0 : Option Addr) (c0_0 : Nat) (l0_0 : List Int) (A0_1 : Option Addr) (c0_1 : Nat) (l0_1 : List Int) (A0_2 : Option Addr) (c0_2 : Nat) (l0_2 : List Int) (a0_3 a0_4 r1 r2 r3 r4 r5 r6 : Int) (w : World)
  (qdZ : Kd.C (Kd.int .i64) w A0_0 l0_0.length l0_0) (qd8 : l0_0.length ≤ c0_0) (qd0 : Kd.C (Kd.int .i64) w A0_1 l0_1.length l0_1) (qd9 : l0_1.length ≤ c0_1) (qd1 : Kd.C (Kd.int .i64) w A0_2 l0_2.length l0_2) (qea : l0_2.length ≤ c0_2)
  (h : qcy.f l0_0 l0_1 l0_2 a0_3 a0_4 = some (r1, r2, r3, r4, r5, r6)) :
  Calls Try.prog 78 #[.agg #[.slice A0_0 l0_0.length c0_0, .slice A0_1 l0_1.length c0_1, .slice A0_2 l0_2.length c0_2, .int .i64 a0_3, .int .i64 a0_4]] w fun e w' =>
   e = .returned (.agg #[.int .i64 r1, .int .i64 r2, .int .i64 r3, .int .i64 r4, .int .i64 r5, .int .i64 r6]) ∧ Below w.heap.size w w' := by
 unfold qcy.f at h
 by_cases hv : l0_0.length ≤ 6
 ·
  rw [if_pos hv] at h
  injection h with h
  simp only [Prod.mk.injEq] at h
  obtain ⟨rfl, rfl, rfl, rfl, rfl, rfl⟩ := h
  exact qcy.calls6 A0_0 c0_0 l0_0 A0_1 c0_1 l0_1.length A0_2 c0_2 l0_2.length a0_3 a0_4 w qdZ hv
 ·
  rw [if_neg hv] at h
  exact absurd h (by simp)
end Go.Proofs.Ytmhomdohhihlcaa.P
namespace Go.Proofs.Ytmhomdohhihlcaa.P
open Go.RowKit Go.Proofs.YtmhomdohhihlcaaW.PrintWords Go.Proofs.YtmhomdohhihlcaaW.PrintLast Go.Proofs.YtmhomdohhihlcaaW.PrintMore
attribute [local go_sem] qb7 qb6 qcr qcq qbR qbS qb8 qb4
def qfO (mesh : Int) : Nat → List Int → Int → List Int × Int
 | 0, n, t => (n, t)
 | j + 1, n, t => if mesh ≤ (j : Int) then qfO mesh j (n.set j (wrap64 (rd n j - mn (rd n j) t))) (wrap64 (t - mn (rd n j) t)) else (n, t)
def qe4 (n spawn : List Int) (k : Nat) : List Int := (List.range k).map fun i : Nat => wrap64 (rd n i * rd spawn i)
def qf5 (last : Int) (n keep : List Int) : Nat → List Int
 | 0 => [0, 0, 0, 0, 0, 0]
 | k + 1 => (qf5 last n keep k).set (mn ((k : Int) + 1) last).toNat (wrap64 (rd (qf5 last n keep k) (mn ((k : Int) + 1) last) + wrap64 (Int.tdiv (wrap64 (rd n k * rd keep k)) 1000)))
def sumW (l : List Int) : Int := l.foldl (fun s x => wrap64 (s + x)) 0
theorem qp4 (l : List Int) (hl : l.length ≤ 9223372036854775806) (d : Nat) : ∀ (s : Int) (i : Nat), i ≤ l.length → l.length - i = d → qa5.l0 (d + 1) s l (l.length : Int) i = some ((l.drop i).foldl (fun s x => wrap64 (s + x)) s) := by
 induction d with
 | zero =>
  intro s i h1 h2
  obtain rfl : i = l.length := by omega
  simp [qa5.l0]
 | succ d ih =>
  intro s i h1 h2
  have hi : i < l.length := by omega
  rw [qa5.l0, if_pos (by omega), if_pos (by omega), if_pos (by omega)]
  have hw : wrap64 ((i : Int) + 1) = ((i + 1 : Nat) : Int) := by unfold wrap64; omega
  rw [hw, ih _ (i + 1) (by omega) (by omega)]
  conv => rhs; rw [List.drop_eq_getElem_cons hi]
  simp only [rd, Int.toNat_natCast, List.getD_eq_getElem?_getD, List.getElem?_eq_getElem hi, Option.getD_some, List.foldl_cons]
theorem qrr (l : List Int) (hl : l.length ≤ 9223372036854775806) : qa5.f (l.length + 1) l = some (sumW l) := by
 have h := qp4 l hl l.length 0 0 (by omega) (by omega)
 simpa [qa5.f, sumW] using h
theorem qjN (last : Int) (n keep : List Int) : ∀ k, (qf5 last n keep k).length = 6
 | 0 => rfl
 | k + 1 => by rw [qf5, List.length_set, qjN last n keep k]
theorem qpG (m i : Int) (h : m ≤ i) (h0 : 0 ≤ m) : 0 ≤ i := by omega
set_option maxHeartbeats 4000000 in
set_option maxRecDepth 100000 in
theorem qcD.calls6 (A0 : Option Addr) (c0 m : Nat) (A1 : Option Addr) (c1 : Nat) (l1 : List Int) (A2 : Option Addr) (c2 : Nat) (l2 : List Int) (a3 a4 : Int) (n : List Int) (take rec_ : Int) (w : World)
  (hn : n.length = 6) (hm1 : 1 ≤ m) (hm6 : m ≤ 6) (e1 : l1.length = m) (e2 : l2.length = m) (hm0 : 0 ≤ a4) (hmm : a4 < m) (hr1 : Kd.C (Kd.int .i64) w A1 l1.length l1) (hr2 : Kd.C (Kd.int .i64) w A2 l2.length l2) :
  Calls Try.prog 77 #[.agg #[.slice A0 m c0, .slice A1 l1.length c1, .slice A2 l2.length c2, .int .i64 a3, .int .i64 a4], .agg #[.int .i64 (rd n 0), .int .i64 (rd n 1), .int .i64 (rd n 2), .int .i64 (rd n 3), .int .i64 (rd n 4), .int .i64 (rd n 5)], .int .i64 take, .int .i64 rec_] w fun e w' =>
   e = .returned (.tuple #[.int .i64 (sumW (qe4 (qfO a4 m n take).1 l2 m)), .agg (ar6 ((qf5 ((m : Int) - 1) (qfO a4 m n take).1 l1 m).set 0 (wrap64 (rd (qf5 ((m : Int) - 1) (qfO a4 m n take).1 l1 m) 0 + rec_)))).toArray]) ∧ Below w.heap.size w w' := by
 have hu := Try.underlying111
 have hu2 := Try.underlying39
 have hu3 := Try.underlying115
 have HR1 := qaa.mk hr1
 have HR2 := qaa.mk hr2
 have HN := qaa.mk hn
 have HE1 := qaa.mk e1
 have HE2 := qaa.mk e2
 have HB := qaa.mk (Below.refl w.heap.size w)
 clear hr1 hr2 hn e1 e2
 obtain ⟨R, hR⟩ : ∃ R, R = qfO a4 m n take := ⟨_, rfl⟩
 rw [← hR]
 have HRR := qaa.mk hR
 clear hR
 go_enter Try.func77, Try.ntmps77
 go_wp2_with (fail)
 have BR0 : (((w.alloc (.cells #[.slice A0 m c0, .slice A1 l1.length c1, .slice A2 l2.length c2, .int .i64 a3, .int .i64 a4] 111)).alloc (.cells (ar6 n).toArray 115)).alloc (.cells (ar6 []).toArray 115)).heap[w.heap.size]? = some (.cells #[.slice A0 m c0, .slice A1 l1.length c1, .slice A2 l2.length c2, .int .i64 a3, .int .i64 a4] 111 (0, 0)) := qab (qab (qgH w _) _) _
 have I50 : Is6 (((w.alloc (.cells #[.slice A0 m c0, .slice A1 l1.length c1, .slice A2 l2.length c2, .int .i64 a3, .int .i64 a4] 111)).alloc (.cells (ar6 n).toArray 115)).alloc (.cells (ar6 []).toArray 115)) (w.heap.size + 1) n := by
  have h := qgH (w.alloc (.cells #[.slice A0 m c0, .slice A1 l1.length c1, .slice A2 l2.length c2, .int .i64 a3, .int .i64 a4] 111)) (.cells (ar6 n).toArray 115)
  rw [World.size_alloc] at h
  exact qab h _
 have I90 : Is6 (((w.alloc (.cells #[.slice A0 m c0, .slice A1 l1.length c1, .slice A2 l2.length c2, .int .i64 a3, .int .i64 a4] 111)).alloc (.cells (ar6 n).toArray 115)).alloc (.cells (ar6 []).toArray 115)) (w.heap.size + 1 + 1) [] := by
  have h := qgH ((w.alloc (.cells #[.slice A0 m c0, .slice A1 l1.length c1, .slice A2 l2.length c2, .int .i64 a3, .int .i64 a4] 111)).alloc (.cells (ar6 n).toArray 115)) (.cells (ar6 []).toArray 115)
  rw [World.size_alloc, World.size_alloc] at h
  exact h
 have BR := qaa.mk BR0
 have I5 := qaa.mk I50
 have I9 := qaa.mk I90
 clear BR0 I50 I90
 go_loopg [2, 11] m (fun j v2 v11 w' => ∃ (t i : Int) (n' : List Int), v2 = .int .i64 t ∧ v11 = .int .i64 i ∧ qaa (i = (j : Int) - 1) ∧ qaa (j ≤ m) ∧ qaa (n'.length = 6) ∧ qaa (R = qfO a4 j n' t) ∧ qaa (w'.heap[w.heap.size]? = some (.cells #[.slice A0 m c0, .slice A1 l1.length c1, .slice A2 l2.length c2, .int .i64 a3, .int .i64 a4] 111 (0, 0))) ∧ qaa (Is6 w' (w.heap.size + 1) n') ∧ qaa (Is6 w' (w.heap.size + 1 + 1) []) ∧ qaa (Below w.heap.size w w'))
 case atStart => exact ⟨take, _, n, rfl, rfl, ⟨rfl⟩, ⟨Nat.le_refl _⟩, HN, HRR, BR, I5, I9, ⟨qaf (qaf (qaf HB.out _) _) _⟩⟩
 case round =>
  clear HRR BR I5 I9 HB HN
  obtain ⟨t, i, n', rfl, rfl, HI, HJ, HN, HRR, BR, I5, I9, HB⟩ := hrel
  have b0 : wr.cell? ⟨w.heap.size, 0, none⟩ = some (.slice A0 m c0) := (qai BR.out 0).trans rfl
  have b1 : wr.cell? ⟨w.heap.size, 1, none⟩ = some (.slice A1 l1.length c1) := (qai BR.out 1).trans rfl
  have b2 : wr.cell? ⟨w.heap.size, 2, none⟩ = some (.slice A2 l2.length c2) := (qai BR.out 2).trans rfl
  have b3 : wr.cell? ⟨w.heap.size, 3, none⟩ = some (.int .i64 a3) := (qai BR.out 3).trans rfl
  have b4 : wr.cell? ⟨w.heap.size, 4, none⟩ = some (.int .i64 a4) := (qai BR.out 4).trans rfl
  by_cases hc : a4 ≤ i
  ·
   have h0 : 0 ≤ i := qpG a4 i hc hm0
   have h6 : i < 6 := by have := HI.out; have := HJ.out; omega
   have hx := I5.out.celli i h0 h6
   have hf := I5.out.frz i.toNat
   obtain ⟨c, hce⟩ : ∃ c, (if t < rd n' i then t else rd n' i) = c := ⟨_, rfl⟩
   have HC := qaa.mk (show mn (rd n' i) t = c from hce)
   go_wp2
   cases gk with
   | zero => exact absurd h0 (by have := HI.out; omega)
   | succ j =>
    have hij : i = (j : Int) := by have := HI.out; omega
    subst hij
    go_roundg j
    case measure => omega
    case rel => exact ⟨_, _, _, rfl, rfl, ⟨rfl⟩, ⟨by have := HJ.out; omega⟩, ⟨by rw [List.length_set]; exact HN.out⟩, ⟨by rw [HRR.out, qfO, if_pos hc, HC.out]; rfl⟩, ⟨qao BR.out (Nat.ne_of_lt (Nat.lt_succ_self _)) _⟩, ⟨I5.out.seti HN.out _ h0 h6 _⟩, ⟨I9.out.far (Nat.succ_ne_self _) _⟩, ⟨qag HB.out (Nat.le_succ _)⟩⟩
  ·
   have HRn := qaa.mk (show R.1 = n' by
    rw [HRR.out]
    cases gk with
    | zero => rfl
    | succ j => rw [qfO, if_neg (by have := HI.out; omega)])
   clear HRR HI HJ
   obtain ⟨W1, rfl⟩ : ∃ W1 : World, W1 = wr := ⟨_, rfl⟩
   have hlt := I9.out.lt
   have I14 := qaa.mk (show Is6 (W1.alloc (.cells (ar6 []).toArray 115)) W1.heap.size [0, 0, 0, 0, 0, 0] from qgH W1 _)
   replace BR := qaa.mk (qab BR.out (.cells (ar6 []).toArray 115))
   replace I5 := qaa.mk (I5.out.alloc (.cells (ar6 []).toArray 115))
   replace I9 := qaa.mk (I9.out.alloc (.cells (ar6 []).toArray 115))
   replace HB := qaa.mk (qaf HB.out (.cells (ar6 []).toArray 115))
   go_wp2
   clear b0 b1 b2 b3 b4
   go_loopg [13, 46] m (fun d v13 v46 w' => ∃ (i : Int) (k : Nat) (sv : Value), v46 = .int .i64 i ∧ sv = v13 ∧ qaa (i = (k : Int)) ∧ qaa (k + d = m) ∧ qaa (Kd.R (Kd.int .i64) 3 w' w.heap.size (fun _ => True) sv (qe4 n' l2 k)) ∧ qaa (Is6 w' W1.heap.size (qf5 ((m : Int) - 1) n' l1 k)) ∧ qaa (w'.heap[w.heap.size]? = some (.cells #[.slice A0 m c0, .slice A1 l1.length c1, .slice A2 l2.length c2, .int .i64 a3, .int .i64 a4] 111 (0, 0))) ∧ qaa (Is6 w' (w.heap.size + 1) n') ∧ qaa (Is6 w' (w.heap.size + 1 + 1) []) ∧ qaa (Below w.heap.size w w'))
   case atStart => exact ⟨_, 0, _, rfl, rfl, ⟨rfl⟩, ⟨Nat.zero_add _⟩, ⟨Kd.R_nil _ _ _ _ _⟩, I14, BR, I5, I9, HB⟩
   case round =>
    clear I14 BR I5 I9 HB; obtain ⟨x, k, sv, rfl, rfl, HX, HD, HS, I14, BR, I5, I9, HB⟩ := hrel; have b0 : wr.cell? ⟨w.heap.size, 0, none⟩ = some (.slice A0 m c0) := (qai BR.out 0).trans rfl; have b1 : wr.cell? ⟨w.heap.size, 1, none⟩ = some (.slice A1 l1.length c1) := (qai BR.out 1).trans rfl; have b2 : wr.cell? ⟨w.heap.size, 2, none⟩ = some (.slice A2 l2.length c2) := (qai BR.out 2).trans rfl
    by_cases hk : x < (m : Int)
    ·
     have hx0 : 0 ≤ x := by have := HX.out; omega
     have hx6 : x < 6 := by omega
     have h5 := I5.out.celli x hx0 hx6; obtain ⟨ad2, ea2, hw2⟩ := Kd.at_int HR2.out x hx0 (by have := HE2.out; omega); subst ea2; have L2 := qaa.mk (World.block_lt_of_cell? w _ hw2); have hA2 := (HB.out.cell L2.out).trans hw2; have HW2 := qaa.mk hw2; clear hw2
     have hl2 : x < (l2.length : Int) := by have := HE2.out; omega
     obtain ⟨p, hp⟩ : ∃ p, p = wrap64 (rd n' x * rd l2 x) := ⟨_, rfl⟩
     have hpw : IntKind.i64.wrap (rd n' x * rd l2 x) = p := by rw [hp, qaM]
     have HP := qaa.mk hp; clear hp
     go_wp2
     have hne5 := Kd.R_ne (Kd.R_drew HS.out) (qae I5.out) (by decide); have hneR := Kd.R_ne (Kd.R_drew HS.out) (qae BR.out) (by decide)
     go_region_held3 (fun w' => w'.cell? ⟨w.heap.size + 1, x.toNat, none⟩ = some (.int .i64 (rd n' x)) ∧ w'.cell? ⟨w.heap.size, 2, none⟩ = some (.slice (some ad2) l2.length c2) ∧ w'.cell? (ad2.add x.toNat) = some (.int .i64 (rd l2 x)))
      (first | go_keep | exact ⟨(Is6.celli (qd6 (qae I5.out) hg1 hne5) x hx0 hx6), ((qai (qd6 (qae BR.out) hg1 hneR) 2).trans rfl), ((HB1.cell L2.out).trans HW2.out)⟩)
      ((refine Kd.R_append_step (Kd.int .i64) (w0 := w) (W := wr.drew) w.heap.size ?hw (.tmp 49) (.tmp 60) 37 3 (.int .i64 0) 8 ?ho Try.underlying37 qiw rfl ?n1 ?n2 sv (qe4 n' l2 k) p [.int .i64 p] (fun _ => True) (fun _ => False) ?e1 ?e2 rfl (fun _ h => h.elim) (fun _ _ => trivial) (Kd.R_drew HS.out) (qbs HB.out) ?c1 ?c2 ?_; (case hw => rfl); (case ho => rfl); (case n1 => decide); (case n2 => decide); (case e1 => rfl); (case e2 => rfl); (case c1 => exact qam (qbs HB.out)); (case c2 => have := HD.out; simp [qe4]; omega); intro v1 w1 HS1 HB1 hg1 hat1))
     have J5 := qaa.mk (show Is6 w1 (w.heap.size + 1) n' from qd6 (qae I5.out) hg1 (Kd.R_ne (Kd.R_drew HS.out) (qae I5.out) (by decide))); have J9 := qaa.mk (show Is6 w1 (w.heap.size + 1 + 1) [] from qd6 (qae I9.out) hg1 (Kd.R_ne (Kd.R_drew HS.out) (qae I9.out) (by decide))); have J14 := qaa.mk (show Is6 w1 W1.heap.size _ from qd6 (qae I14.out) hg1 (Kd.R_ne (Kd.R_drew HS.out) (qae I14.out) (by decide))); have JR := qaa.mk (qd6 (qae BR.out) hg1 (Kd.R_ne (Kd.R_drew HS.out) (qae BR.out) (by decide))); have JS := qaa.mk HS1; have JB := qaa.mk HB1; clear I5 I9 I14 BR HS HB HS1 HB1 hg1 hat1 b0 b1 b2 h5 hA2 hl2 hpw; obtain ⟨y, hy⟩ : ∃ y, y = qf5 ((m : Int) - 1) n' l1 k := ⟨_, rfl⟩; have HY := qaa.mk hy; rw [← hy] at J14; clear hy; have d1 : w1.cell? ⟨w.heap.size, 1, none⟩ = some (.slice A1 l1.length c1) := (qai JR.out 1).trans rfl; have h5 := J5.out.celli x hx0 hx6; obtain ⟨ad1, ea1, hw1⟩ := Kd.at_int HR1.out x hx0 (by have := HE1.out; omega); subst ea1; have L1 := qaa.mk (World.block_lt_of_cell? w _ hw1); have hA1 := (JB.out.cell L1.out).trans hw1; have HW1 := qaa.mk hw1; clear hw1
     have hl1 : x < (l1.length : Int) := by have := HE1.out; omega
     obtain ⟨jx, hjx⟩ : ∃ jx, (if (m : Int) - 1 < x + 1 then (m : Int) - 1 else x + 1) = jx := ⟨_, rfl⟩; have HJX := qaa.mk (show mn (x + 1) ((m : Int) - 1) = jx from hjx)
     have hj0 : 0 ≤ jx := by rw [← hjx]; split <;> omega
     have hj6 : jx < 6 := by rw [← hjx]; split <;> omega
     have h14 := J14.out.celli jx hj0 hj6; have f14 := J14.out.frz jx.toNat
     have hwx : IntKind.i64.wrap (x + 1) = x + 1 := by rw [qaM]; unfold wrap64; omega
     obtain ⟨q1, hq1⟩ : ∃ q1, IntKind.i64.wrap (rd n' x * rd l1 x) = q1 := ⟨_, rfl⟩; obtain ⟨q2, hq2⟩ : ∃ q2, IntKind.i64.wrap (Int.tdiv q1 1000) = q2 := ⟨_, rfl⟩; obtain ⟨q3, hq3⟩ : ∃ q3, IntKind.i64.wrap (rd y jx + q2) = q3 := ⟨_, rfl⟩; have HQ := qaa.mk (show q3 = wrap64 (rd y jx + wrap64 (Int.tdiv (wrap64 (rd n' x * rd l1 x)) 1000)) by rw [← hq3, ← hq2, ← hq1, qaM, qaM, qaM])
     go_wp2
     go_still_tail 19, (by kernel_rfl)
     change wpList _ _ _ _ _ w1.drew
     go_wp2
     cases gk with
     | zero => exact absurd hk (by have := HX.out; have := HD.out; omega)
     | succ d =>
      have hxk : x = (k : Int) := HX.out
      go_roundg d
      case measure => omega
      case rel =>
       have hgt : w.heap.size < W1.heap.size := by omega
       refine ⟨_, k + 1, _, rfl, rfl, ⟨by rw [hxk]; rfl⟩, ⟨by have := HD.out; omega⟩, ⟨?_⟩, ⟨?_⟩, ⟨qao (qae JR.out) (Nat.ne_of_lt hgt) _⟩, ⟨J5.out.drew.far (Nat.ne_of_lt (by show w.heap.size + 1 < W1.heap.size; omega)) _⟩, ⟨J9.out.drew.far (Nat.ne_of_lt hlt) _⟩, ⟨qag (qbs JB.out) (Nat.le_of_lt hgt)⟩⟩
       ·
        have e : qe4 n' l2 (k + 1) = qe4 n' l2 k ++ [p] := by
         rw [HP.out, hxk]; simp [qe4, List.range_succ]
        rw [e]
        exact qpA (Kd.R_drew JS.out) J14.out.drew _ _
       ·
        have e : qf5 ((m : Int) - 1) n' l1 (k + 1) = y.set jx.toNat q3 := by
         rw [qf5, ← HY.out, ← hxk, HJX.out, HQ.out]
        rw [e]
        exact J14.out.drew.seti (by rw [HY.out]; exact qjN _ _ _ k) jx hj0 hj6 q3
    ·
     have hkm : k = m := by have := HX.out; have := HD.out; omega
     subst hkm; obtain ⟨y, hy⟩ : ∃ y, y = qf5 ((k : Int) - 1) n' l1 k := ⟨_, rfl⟩; have HY := qaa.mk hy; rw [← hy] at I14; clear hy; obtain ⟨i0, i1, i2, i3, i4, i5⟩ := I14.out.cells; have f0 := I14.out.frz 0; obtain ⟨z, hz⟩ : ∃ z, wrap64 (rd y 0 + rec_) = z := ⟨_, rfl⟩; obtain ⟨As, cs, hsv⟩ := Kd.R_slice HS.out; subst hsv; have hcs := (Kd.R_reads' HS.out).2.1; have HSL := qaa.mk (show (qe4 n' l2 k).length = k by simp [qe4])
     have hgt : w.heap.size < W1.heap.size := by omega
     have Y14 := qaa.mk (show Is6 (wr.setCell ⟨W1.heap.size, 0, none⟩ (.int .i64 z)) W1.heap.size (y.set 0 z) from I14.out.set (by rw [HY.out]; exact qjN _ _ _ k) 0 (by omega) z); have YS := qaa.mk (qpA HS.out I14.out 0 (.int .i64 z)); have Y9 := qaa.mk (I9.out.far (p := ⟨W1.heap.size, 0, none⟩) (Nat.ne_of_lt hlt) (.int .i64 z)); have YB := qaa.mk (qag (j := 0) (v := .int .i64 z) HB.out (Nat.le_of_lt hgt))
     go_wp2
     generalize wr.setCell ⟨W1.heap.size, 0, none⟩ (.int .i64 z) = w2 at Y14 YS Y9 YB ⊢
     clear i0 i1 i2 i3 i4 i5 f0 b0 b1 b2; obtain ⟨i0, i1, i2, i3, i4, i5⟩ := Y14.out.cells; obtain ⟨z0, z1, z2, z3, z4, z5⟩ := Y9.out.cells; obtain ⟨f0, f1, f2, f3, f4, f5⟩ := Y9.out.frozen
     go_region_with (go_at_call 97; refine (qa5.calls ((qe4 n' l2 k).length + 1) As cs (qe4 n' l2 k) (sumW (qe4 n' l2 k)) _ ?hr hcs ?hs).mono ?_; (case hr => exact Kd.C_below (Kd.R_reads' YS.out).2.2 (by repeat (first | exact Below.refl _ _ | apply qbs | apply qad))); (case hs => exact qrr _ (by rw [HSL.out]; omega)); rintro e w' ⟨rfl, ⟨nq, rfl⟩⟩)
     all_goals
      go_wp2
      refine bodyPost_ret (qoV rfl _ _ (w.heap.size + 1 + 1) 115 (ar6 (y.set 0 z)).toArray (0, 0) _ rfl (Is6.put6 (Y9.out.drewN _) (y.set 0 z)) Try.underlying115 rfl (by kernel_rfl)) rfl ?_; refine ⟨?_, ?_⟩
      ·
       show Ending.returned (.tuple #[.int .i64 (sumW (qe4 n' l2 k)), .agg (ar6 (y.set 0 z)).toArray]) = _
       rw [HRn.out, ← HY.out, hz]
      ·
       have h1 : w.heap.size ≤ w.heap.size + 1 + 1 := by omega
       exact qag (qag (qag (qag (qag (qag (qad YB.out _) h1) h1) h1) h1) h1) h1
def qjB (m : Nat) (mesh : Int) (keep spawn n : List Int) (take rec_ : Int) : Int × List Int :=
 (sumW (qe4 (qfO mesh m n take).1 spawn m), (qf5 ((m : Int) - 1) (qfO mesh m n take).1 keep m).set 0 (wrap64 (rd (qf5 ((m : Int) - 1) (qfO mesh m n take).1 keep m) 0 + rec_)))
def okR (l0 l1 l2 : List Int) (a4 : Int) : Prop := 1 ≤ l0.length ∧ l0.length ≤ 6 ∧ l1.length = l0.length ∧ l2.length = l0.length ∧ 0 ≤ a4 ∧ a4 < (l0.length : Int)
instance (l0 l1 l2 : List Int) (a4 : Int) : Decidable (okR l0 l1 l2 a4) := by unfold okR; infer_instance
def qcD.f (l0_0 l0_1 l0_2 : List Int) (a0_3 a0_4 a1_0 a1_1 a1_2 a1_3 a1_4 a1_5 a2 a3 : Int) : Option (Int × Int × Int × Int × Int × Int × Int) :=
 if okR l0_0 l0_1 l0_2 a0_4 then
  some ((qjB l0_0.length a0_4 l0_1 l0_2 [a1_0, a1_1, a1_2, a1_3, a1_4, a1_5] a2 a3).1,
   rd (qjB l0_0.length a0_4 l0_1 l0_2 [a1_0, a1_1, a1_2, a1_3, a1_4, a1_5] a2 a3).2 0, rd (qjB l0_0.length a0_4 l0_1 l0_2 [a1_0, a1_1, a1_2, a1_3, a1_4, a1_5] a2 a3).2 1,
   rd (qjB l0_0.length a0_4 l0_1 l0_2 [a1_0, a1_1, a1_2, a1_3, a1_4, a1_5] a2 a3).2 2, rd (qjB l0_0.length a0_4 l0_1 l0_2 [a1_0, a1_1, a1_2, a1_3, a1_4, a1_5] a2 a3).2 3,
   rd (qjB l0_0.length a0_4 l0_1 l0_2 [a1_0, a1_1, a1_2, a1_3, a1_4, a1_5] a2 a3).2 4, rd (qjB l0_0.length a0_4 l0_1 l0_2 [a1_0, a1_1, a1_2, a1_3, a1_4, a1_5] a2 a3).2 5)
 else none
theorem qcD.calls (A0_0 : Option Addr) (c0_0 : Nat) (l0_0 : List Int) (A0_1 : Option Addr) (c0_1 : Nat) (l0_1 : List Int) (A0_2 : Option Addr) (c0_2 : Nat) (l0_2 : List Int) (a0_3 a0_4 a1_0 a1_1 a1_2 a1_3 a1_4 a1_5 a2 a3 r1 r2 r3 r4 r5 r6 r7 : Int) (w : World)
  (qdZ : Kd.C (Kd.int .i64) w A0_0 l0_0.length l0_0) (qd8 : l0_0.length ≤ c0_0) (qd0 : Kd.C (Kd.int .i64) w A0_1 l0_1.length l0_1) (qd9 : l0_1.length ≤ c0_1) (qd1 : Kd.C (Kd.int .i64) w A0_2 l0_2.length l0_2) (qea : l0_2.length ≤ c0_2)
  (h : qcD.f l0_0 l0_1 l0_2 a0_3 a0_4 a1_0 a1_1 a1_2 a1_3 a1_4 a1_5 a2 a3 = some (r1, r2, r3, r4, r5, r6, r7)) :
  Calls Try.prog 77 #[.agg #[.slice A0_0 l0_0.length c0_0, .slice A0_1 l0_1.length c0_1, .slice A0_2 l0_2.length c0_2, .int .i64 a0_3, .int .i64 a0_4], .agg #[.int .i64 a1_0, .int .i64 a1_1, .int .i64 a1_2, .int .i64 a1_3, .int .i64 a1_4, .int .i64 a1_5], .int .i64 a2, .int .i64 a3] w fun e w' =>
   e = .returned (.tuple #[.int .i64 r1, .agg #[.int .i64 r2, .int .i64 r3, .int .i64 r4, .int .i64 r5, .int .i64 r6, .int .i64 r7]]) ∧ Below w.heap.size w w' := by
 unfold qcD.f at h
 by_cases hv : okR l0_0 l0_1 l0_2 a0_4
 ·
  rw [if_pos hv] at h
  obtain ⟨h1, h2, h3, h4, h5, h6⟩ := hv
  injection h with h
  simp only [Prod.mk.injEq] at h
  obtain ⟨rfl, rfl, rfl, rfl, rfl, rfl, rfl⟩ := h
  exact qcD.calls6 A0_0 c0_0 l0_0.length A0_1 c0_1 l0_1 A0_2 c0_2 l0_2 a0_3 a0_4 [a1_0, a1_1, a1_2, a1_3, a1_4, a1_5] a2 a3 w rfl h1 h2 h3 h4 h5 h6 qd0 qd1
 ·
  rw [if_neg hv] at h
  exact absurd h (by simp)
end Go.Proofs.Ytmhomdohhihlcaa.P
