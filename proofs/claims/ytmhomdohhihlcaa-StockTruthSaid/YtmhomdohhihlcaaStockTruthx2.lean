/- What the statement StockTruth leans on, part 3 of 6: contracts of the program's functions; conditions: none. -/
import Derived.Deep.RegionLaw
import Derived.Deep.RegionHeld3
import Derived.StillTailTactics
import Derived.Deep.RegionWith
import Derived.BigRegion
import Derived.Outline
import Derived.Test.YtmhomdohhihlcaaStockTruthx0
import Derived.Test.YtmhomdohhihlcaaStockTruthx1
set_option linter.unusedVariables false
set_option linter.unusedSimpArgs false
set_option linter.constructorNameAsVariable false
set_option linter.unusedSectionVars false
namespace Go.Proofs.Ytmhomdohhihlcaa.P
open Go.RowKit Go.Proofs.YtmhomdohhihlcaaW.PrintWords Go.Proofs.YtmhomdohhihlcaaW.PrintLast Go.Proofs.YtmhomdohhihlcaaW.PrintMore
attribute [local go_sem] qb2 qb4 qcg qch qbQ qbR qb3 qb5
def qgi (mesh : Int) : Nat → List Int → Int → List Int × Int
 | 0, n, t => (n, t)
 | j + 1, n, t => if mesh ≤ (j : Int) then qgi mesh j (n.set j (wrap64 (rd n j - mn (rd n j) t))) (wrap64 (t - mn (rd n j) t)) else (n, t)
def qfz (n spawn : List Int) (k : Nat) : List Int := (List.range k).map fun i : Nat => wrap64 (rd n i * rd spawn i)
def qgK (last : Int) (n keep : List Int) : Nat → List Int
 | 0 => [0, 0, 0, 0, 0, 0]
 | k + 1 => (qgK last n keep k).set (mn ((k : Int) + 1) last).toNat (wrap64 (rd (qgK last n keep k) (mn ((k : Int) + 1) last) + wrap64 (Int.tdiv (wrap64 (rd n k * rd keep k)) 1000)))
def sumW (l : List Int) : Int := l.foldl (fun s x => wrap64 (s + x)) 0
theorem qqO (l : List Int) (hl : l.length ≤ 9223372036854775806) (d : Nat) : ∀ (s : Int) (i : Nat), i ≤ l.length → l.length - i = d → qbh.l0 (d + 1) s l (l.length : Int) i = some ((l.drop i).foldl (fun s x => wrap64 (s + x)) s) := by
 induction d with
 | zero =>
  intro s i h1 h2
  obtain rfl : i = l.length := by omega
  simp [qbh.l0]
 | succ d ih =>
  intro s i h1 h2
  have hi : i < l.length := by omega
  rw [qbh.l0, if_pos (by omega), if_pos (by omega), if_pos (by omega)]
  have hw : wrap64 ((i : Int) + 1) = ((i + 1 : Nat) : Int) := by unfold wrap64; omega
  rw [hw, ih _ (i + 1) (by omega) (by omega)]
  conv => rhs; rw [List.drop_eq_getElem_cons hi]
  simp only [rd, Int.toNat_natCast, List.getD_eq_getElem?_getD, List.getElem?_eq_getElem hi, Option.getD_some, List.foldl_cons]
theorem qtm (l : List Int) (hl : l.length ≤ 9223372036854775806) : qbh.f (l.length + 1) l = some (sumW l) := by
 have h := qqO l hl l.length 0 0 (by omega) (by omega)
 simpa [qbh.f, sumW] using h
theorem qkq (last : Int) (n keep : List Int) : ∀ k, (qgK last n keep k).length = 6
 | 0 => rfl
 | k + 1 => by rw [qgK, List.length_set, qkq last n keep k]
theorem qqf (m i : Int) (h : m ≤ i) (h0 : 0 ≤ m) : 0 ≤ i := by omega
set_option maxHeartbeats 4000000 in
set_option maxRecDepth 100000 in
theorem qcT.calls6 (A0 : Option Addr) (c0 m : Nat) (A1 : Option Addr) (c1 : Nat) (l1 : List Int) (A2 : Option Addr) (c2 : Nat) (l2 : List Int) (a3 a4 : Int) (n : List Int) (take rec_ : Int) (w : World)
  (hn : n.length = 6) (hm1 : 1 ≤ m) (hm6 : m ≤ 6) (e1 : l1.length = m) (e2 : l2.length = m) (hm0 : 0 ≤ a4) (hmm : a4 < m) (hr1 : Kd.C (Kd.int .i64) w A1 l1.length l1) (hr2 : Kd.C (Kd.int .i64) w A2 l2.length l2) :
  Calls Try.prog 77 #[.agg #[.slice A0 m c0, .slice A1 l1.length c1, .slice A2 l2.length c2, .int .i64 a3, .int .i64 a4], .agg #[.int .i64 (rd n 0), .int .i64 (rd n 1), .int .i64 (rd n 2), .int .i64 (rd n 3), .int .i64 (rd n 4), .int .i64 (rd n 5)], .int .i64 take, .int .i64 rec_] w fun e w' =>
   e = .returned (.tuple #[.int .i64 (sumW (qfz (qgi a4 m n take).1 l2 m)), .agg (ar6 ((qgK ((m : Int) - 1) (qgi a4 m n take).1 l1 m).set 0 (wrap64 (rd (qgK ((m : Int) - 1) (qgi a4 m n take).1 l1 m) 0 + rec_)))).toArray]) ∧ Below w.heap.size w w' := by
 have hu := Try.underlying111
 have hu2 := Try.underlying39
 have hu3 := Try.underlying115
 have HR1 := qaa.mk hr1
 have HR2 := qaa.mk hr2
 have HN := qaa.mk hn
 have HE1 := qaa.mk e1
 have HE2 := qaa.mk e2
 have HB := qaa.mk (Below.refl w.heap.size w)
 clear hr1 hr2 hn e1 e2
 obtain ⟨R, hR⟩ : ∃ R, R = qgi a4 m n take := ⟨_, rfl⟩
 rw [← hR]
 have HRR := qaa.mk hR
 clear hR
 go_enter Try.func77, Try.ntmps77
 go_wp2_with (fail)
 have BR0 : (((w.alloc (.cells #[.slice A0 m c0, .slice A1 l1.length c1, .slice A2 l2.length c2, .int .i64 a3, .int .i64 a4] 111)).alloc (.cells (ar6 n).toArray 115)).alloc (.cells (ar6 []).toArray 115)).heap[w.heap.size]? = some (.cells #[.slice A0 m c0, .slice A1 l1.length c1, .slice A2 l2.length c2, .int .i64 a3, .int .i64 a4] 111 (0, 0)) := qab (qab (qgR w _) _) _
 have I50 : Is6 (((w.alloc (.cells #[.slice A0 m c0, .slice A1 l1.length c1, .slice A2 l2.length c2, .int .i64 a3, .int .i64 a4] 111)).alloc (.cells (ar6 n).toArray 115)).alloc (.cells (ar6 []).toArray 115)) (w.heap.size + 1) n := by
  have h := qgR (w.alloc (.cells #[.slice A0 m c0, .slice A1 l1.length c1, .slice A2 l2.length c2, .int .i64 a3, .int .i64 a4] 111)) (.cells (ar6 n).toArray 115)
  rw [World.size_alloc] at h
  exact qab h _
 have I90 : Is6 (((w.alloc (.cells #[.slice A0 m c0, .slice A1 l1.length c1, .slice A2 l2.length c2, .int .i64 a3, .int .i64 a4] 111)).alloc (.cells (ar6 n).toArray 115)).alloc (.cells (ar6 []).toArray 115)) (w.heap.size + 1 + 1) [] := by
  have h := qgR ((w.alloc (.cells #[.slice A0 m c0, .slice A1 l1.length c1, .slice A2 l2.length c2, .int .i64 a3, .int .i64 a4] 111)).alloc (.cells (ar6 n).toArray 115)) (.cells (ar6 []).toArray 115)
  rw [World.size_alloc, World.size_alloc] at h
  exact h
 have BR := qaa.mk BR0
 have I5 := qaa.mk I50
 have I9 := qaa.mk I90
 clear BR0 I50 I90
 go_loopg [2, 11] m (fun j v2 v11 w' => ∃ (t i : Int) (n' : List Int), v2 = .int .i64 t ∧ v11 = .int .i64 i ∧ qaa (i = (j : Int) - 1) ∧ qaa (j ≤ m) ∧ qaa (n'.length = 6) ∧ qaa (R = qgi a4 j n' t) ∧ qaa (w'.heap[w.heap.size]? = some (.cells #[.slice A0 m c0, .slice A1 l1.length c1, .slice A2 l2.length c2, .int .i64 a3, .int .i64 a4] 111 (0, 0))) ∧ qaa (Is6 w' (w.heap.size + 1) n') ∧ qaa (Is6 w' (w.heap.size + 1 + 1) []) ∧ qaa (Below w.heap.size w w'))
 case atStart => exact ⟨take, _, n, rfl, rfl, ⟨rfl⟩, ⟨Nat.le_refl _⟩, HN, HRR, BR, I5, I9, ⟨qag (qag (qag HB.out _) _) _⟩⟩
 case round =>
  clear HRR BR I5 I9 HB HN
  obtain ⟨t, i, n', rfl, rfl, HI, HJ, HN, HRR, BR, I5, I9, HB⟩ := hrel
  have b0 : wr.cell? ⟨w.heap.size, 0, none⟩ = some (.slice A0 m c0) := (qai BR.out 0).trans rfl
  have b1 : wr.cell? ⟨w.heap.size, 1, none⟩ = some (.slice A1 l1.length c1) := (qai BR.out 1).trans rfl
  have b2 : wr.cell? ⟨w.heap.size, 2, none⟩ = some (.slice A2 l2.length c2) := (qai BR.out 2).trans rfl
  have b3 : wr.cell? ⟨w.heap.size, 3, none⟩ = some (.int .i64 a3) := (qai BR.out 3).trans rfl
  have b4 : wr.cell? ⟨w.heap.size, 4, none⟩ = some (.int .i64 a4) := (qai BR.out 4).trans rfl
  by_cases hc : a4 ≤ i
  ·
   have h0 : 0 ≤ i := qqf a4 i hc hm0
   have h6 : i < 6 := by have := HI.out; have := HJ.out; omega
   have hx := I5.out.celli i h0 h6
   have hf := I5.out.frz i.toNat
   obtain ⟨c, hce⟩ : ∃ c, (if t < rd n' i then t else rd n' i) = c := ⟨_, rfl⟩
   have HC := qaa.mk (show mn (rd n' i) t = c from hce)
   go_wp2
   cases gk with
   | zero => exact absurd h0 (by have := HI.out; omega)
   | succ j =>
    have hij : i = (j : Int) := by have := HI.out; omega
    subst hij
    go_roundg j
    case measure => omega
    case rel => exact ⟨_, _, _, rfl, rfl, ⟨rfl⟩, ⟨by have := HJ.out; omega⟩, ⟨by rw [List.length_set]; exact HN.out⟩, ⟨by rw [HRR.out, qgi, if_pos hc, HC.out]; rfl⟩, ⟨qau BR.out (Nat.ne_of_lt (Nat.lt_succ_self _)) _⟩, ⟨I5.out.seti HN.out _ h0 h6 _⟩, ⟨I9.out.far (Nat.succ_ne_self _) _⟩, ⟨qaf HB.out (Nat.le_succ _)⟩⟩
  ·
   have HRn := qaa.mk (show R.1 = n' by
    rw [HRR.out]
    cases gk with
    | zero => rfl
    | succ j => rw [qgi, if_neg (by have := HI.out; omega)])
   clear HRR HI HJ
   obtain ⟨W1, rfl⟩ : ∃ W1 : World, W1 = wr := ⟨_, rfl⟩
   have hlt := I9.out.lt
   have I14 := qaa.mk (show Is6 (W1.alloc (.cells (ar6 []).toArray 115)) W1.heap.size [0, 0, 0, 0, 0, 0] from qgR W1 _)
   replace BR := qaa.mk (qab BR.out (.cells (ar6 []).toArray 115))
   replace I5 := qaa.mk (I5.out.alloc (.cells (ar6 []).toArray 115))
   replace I9 := qaa.mk (I9.out.alloc (.cells (ar6 []).toArray 115))
   replace HB := qaa.mk (qag HB.out (.cells (ar6 []).toArray 115))
   go_wp2
   clear b0 b1 b2 b3 b4
   go_loopg [13, 46] m (fun d v13 v46 w' => ∃ (i : Int) (k : Nat) (sv : Value), v46 = .int .i64 i ∧ sv = v13 ∧ qaa (i = (k : Int)) ∧ qaa (k + d = m) ∧ qaa (Kd.R (Kd.int .i64) 3 w' w.heap.size (fun _ => True) sv (qfz n' l2 k)) ∧ qaa (Is6 w' W1.heap.size (qgK ((m : Int) - 1) n' l1 k)) ∧ qaa (w'.heap[w.heap.size]? = some (.cells #[.slice A0 m c0, .slice A1 l1.length c1, .slice A2 l2.length c2, .int .i64 a3, .int .i64 a4] 111 (0, 0))) ∧ qaa (Is6 w' (w.heap.size + 1) n') ∧ qaa (Is6 w' (w.heap.size + 1 + 1) []) ∧ qaa (Below w.heap.size w w'))
   case atStart => exact ⟨_, 0, _, rfl, rfl, ⟨rfl⟩, ⟨Nat.zero_add _⟩, ⟨Kd.R_nil _ _ _ _ _⟩, I14, BR, I5, I9, HB⟩
   case round =>
    clear I14 BR I5 I9 HB; obtain ⟨x, k, sv, rfl, rfl, HX, HD, HS, I14, BR, I5, I9, HB⟩ := hrel; have b0 : wr.cell? ⟨w.heap.size, 0, none⟩ = some (.slice A0 m c0) := (qai BR.out 0).trans rfl; have b1 : wr.cell? ⟨w.heap.size, 1, none⟩ = some (.slice A1 l1.length c1) := (qai BR.out 1).trans rfl; have b2 : wr.cell? ⟨w.heap.size, 2, none⟩ = some (.slice A2 l2.length c2) := (qai BR.out 2).trans rfl
    by_cases hk : x < (m : Int)
    ·
     have hx0 : 0 ≤ x := by have := HX.out; omega
     have hx6 : x < 6 := by omega
     have h5 := I5.out.celli x hx0 hx6; obtain ⟨ad2, ea2, hw2⟩ := Kd.at_int HR2.out x hx0 (by have := HE2.out; omega); subst ea2; have L2 := qaa.mk (World.block_lt_of_cell? w _ hw2); have hA2 := (HB.out.cell L2.out).trans hw2; have HW2 := qaa.mk hw2; clear hw2
     have hl2 : x < (l2.length : Int) := by have := HE2.out; omega
     obtain ⟨p, hp⟩ : ∃ p, p = wrap64 (rd n' x * rd l2 x) := ⟨_, rfl⟩
     have hpw : IntKind.i64.wrap (rd n' x * rd l2 x) = p := by rw [hp, qaB]
     have HP := qaa.mk hp; clear hp
     go_wp2
     have hne5 := Kd.R_ne (Kd.R_drew HS.out) (qae I5.out) (by decide); have hneR := Kd.R_ne (Kd.R_drew HS.out) (qae BR.out) (by decide)
     go_region_held3 (fun w' => w'.cell? ⟨w.heap.size + 1, x.toNat, none⟩ = some (.int .i64 (rd n' x)) ∧ w'.cell? ⟨w.heap.size, 2, none⟩ = some (.slice (some ad2) l2.length c2) ∧ w'.cell? (ad2.add x.toNat) = some (.int .i64 (rd l2 x)))
      (first | go_keep | exact ⟨(Is6.celli (qej (qae I5.out) hg1 hne5) x hx0 hx6), ((qai (qej (qae BR.out) hg1 hneR) 2).trans rfl), ((HB1.cell L2.out).trans HW2.out)⟩)
      ((refine Kd.R_append_step (Kd.int .i64) (w0 := w) (W := wr.drew) w.heap.size ?hw (.tmp 49) (.tmp 60) 37 3 (.int .i64 0) 8 ?ho Try.underlying37 qi3 rfl ?n1 ?n2 sv (qfz n' l2 k) p [.int .i64 p] (fun _ => True) (fun _ => False) ?e1 ?e2 rfl (fun _ h => h.elim) (fun _ _ => trivial) (Kd.R_drew HS.out) (qbC HB.out) ?c1 ?c2 ?_; (case hw => rfl); (case ho => rfl); (case n1 => decide); (case n2 => decide); (case e1 => rfl); (case e2 => rfl); (case c1 => exact qav (qbC HB.out)); (case c2 => have := HD.out; simp [qfz]; omega); intro v1 w1 HS1 HB1 hg1 hat1))
     have J5 := qaa.mk (show Is6 w1 (w.heap.size + 1) n' from qej (qae I5.out) hg1 (Kd.R_ne (Kd.R_drew HS.out) (qae I5.out) (by decide))); have J9 := qaa.mk (show Is6 w1 (w.heap.size + 1 + 1) [] from qej (qae I9.out) hg1 (Kd.R_ne (Kd.R_drew HS.out) (qae I9.out) (by decide))); have J14 := qaa.mk (show Is6 w1 W1.heap.size _ from qej (qae I14.out) hg1 (Kd.R_ne (Kd.R_drew HS.out) (qae I14.out) (by decide))); have JR := qaa.mk (qej (qae BR.out) hg1 (Kd.R_ne (Kd.R_drew HS.out) (qae BR.out) (by decide))); have JS := qaa.mk HS1; have JB := qaa.mk HB1; clear I5 I9 I14 BR HS HB HS1 HB1 hg1 hat1 b0 b1 b2 h5 hA2 hl2 hpw; obtain ⟨y, hy⟩ : ∃ y, y = qgK ((m : Int) - 1) n' l1 k := ⟨_, rfl⟩; have HY := qaa.mk hy; rw [← hy] at J14; clear hy; have d1 : w1.cell? ⟨w.heap.size, 1, none⟩ = some (.slice A1 l1.length c1) := (qai JR.out 1).trans rfl; have h5 := J5.out.celli x hx0 hx6; obtain ⟨ad1, ea1, hw1⟩ := Kd.at_int HR1.out x hx0 (by have := HE1.out; omega); subst ea1; have L1 := qaa.mk (World.block_lt_of_cell? w _ hw1); have hA1 := (JB.out.cell L1.out).trans hw1; have HW1 := qaa.mk hw1; clear hw1
     have hl1 : x < (l1.length : Int) := by have := HE1.out; omega
     obtain ⟨jx, hjx⟩ : ∃ jx, (if (m : Int) - 1 < x + 1 then (m : Int) - 1 else x + 1) = jx := ⟨_, rfl⟩; have HJX := qaa.mk (show mn (x + 1) ((m : Int) - 1) = jx from hjx)
     have hj0 : 0 ≤ jx := by rw [← hjx]; split <;> omega
     have hj6 : jx < 6 := by rw [← hjx]; split <;> omega
     have h14 := J14.out.celli jx hj0 hj6; have f14 := J14.out.frz jx.toNat
     have hwx : IntKind.i64.wrap (x + 1) = x + 1 := by rw [qaB]; unfold wrap64; omega
     obtain ⟨q1, hq1⟩ : ∃ q1, IntKind.i64.wrap (rd n' x * rd l1 x) = q1 := ⟨_, rfl⟩; obtain ⟨q2, hq2⟩ : ∃ q2, IntKind.i64.wrap (Int.tdiv q1 1000) = q2 := ⟨_, rfl⟩; obtain ⟨q3, hq3⟩ : ∃ q3, IntKind.i64.wrap (rd y jx + q2) = q3 := ⟨_, rfl⟩; have HQ := qaa.mk (show q3 = wrap64 (rd y jx + wrap64 (Int.tdiv (wrap64 (rd n' x * rd l1 x)) 1000)) by rw [← hq3, ← hq2, ← hq1, qaB, qaB, qaB])
     go_wp2
     go_still_tail 19, (by kernel_rfl)
     change wpList _ _ _ _ _ w1.drew
     go_wp2
     cases gk with
     | zero => exact absurd hk (by have := HX.out; have := HD.out; omega)
     | succ d =>
      have hxk : x = (k : Int) := HX.out
      go_roundg d
      case measure => omega
      case rel =>
       have hgt : w.heap.size < W1.heap.size := by omega
       refine ⟨_, k + 1, _, rfl, rfl, ⟨by rw [hxk]; rfl⟩, ⟨by have := HD.out; omega⟩, ⟨?_⟩, ⟨?_⟩, ⟨qau (qae JR.out) (Nat.ne_of_lt hgt) _⟩, ⟨J5.out.drew.far (Nat.ne_of_lt (by show w.heap.size + 1 < W1.heap.size; omega)) _⟩, ⟨J9.out.drew.far (Nat.ne_of_lt hlt) _⟩, ⟨qaf (qbC JB.out) (Nat.le_of_lt hgt)⟩⟩
       ·
        have e : qfz n' l2 (k + 1) = qfz n' l2 k ++ [p] := by
         rw [HP.out, hxk]; simp [qfz, List.range_succ]
        rw [e]
        exact qpY (Kd.R_drew JS.out) J14.out.drew _ _
       ·
        have e : qgK ((m : Int) - 1) n' l1 (k + 1) = y.set jx.toNat q3 := by
         rw [qgK, ← HY.out, ← hxk, HJX.out, HQ.out]
        rw [e]
        exact J14.out.drew.seti (by rw [HY.out]; exact qkq _ _ _ k) jx hj0 hj6 q3
    ·
     have hkm : k = m := by have := HX.out; have := HD.out; omega
     subst hkm; obtain ⟨y, hy⟩ : ∃ y, y = qgK ((k : Int) - 1) n' l1 k := ⟨_, rfl⟩; have HY := qaa.mk hy; rw [← hy] at I14; clear hy; obtain ⟨i0, i1, i2, i3, i4, i5⟩ := I14.out.cells; have f0 := I14.out.frz 0; obtain ⟨z, hz⟩ : ∃ z, wrap64 (rd y 0 + rec_) = z := ⟨_, rfl⟩; obtain ⟨As, cs, hsv⟩ := Kd.R_slice HS.out; subst hsv; have hcs := (Kd.R_reads' HS.out).2.1; have HSL := qaa.mk (show (qfz n' l2 k).length = k by simp [qfz])
     have hgt : w.heap.size < W1.heap.size := by omega
     have Y14 := qaa.mk (show Is6 (wr.setCell ⟨W1.heap.size, 0, none⟩ (.int .i64 z)) W1.heap.size (y.set 0 z) from I14.out.set (by rw [HY.out]; exact qkq _ _ _ k) 0 (by omega) z); have YS := qaa.mk (qpY HS.out I14.out 0 (.int .i64 z)); have Y9 := qaa.mk (I9.out.far (p := ⟨W1.heap.size, 0, none⟩) (Nat.ne_of_lt hlt) (.int .i64 z)); have YB := qaa.mk (qaf (j := 0) (v := .int .i64 z) HB.out (Nat.le_of_lt hgt))
     go_wp2
     generalize wr.setCell ⟨W1.heap.size, 0, none⟩ (.int .i64 z) = w2 at Y14 YS Y9 YB ⊢
     clear i0 i1 i2 i3 i4 i5 f0 b0 b1 b2; obtain ⟨i0, i1, i2, i3, i4, i5⟩ := Y14.out.cells; obtain ⟨z0, z1, z2, z3, z4, z5⟩ := Y9.out.cells; obtain ⟨f0, f1, f2, f3, f4, f5⟩ := Y9.out.frozen
     go_region_with (go_at_call 97; refine (qbh.calls ((qfz n' l2 k).length + 1) As cs (qfz n' l2 k) (sumW (qfz n' l2 k)) _ ?hr hcs ?hs).mono ?_; (case hr => exact Kd.C_below (Kd.R_reads' YS.out).2.2 (by repeat (first | exact Below.refl _ _ | apply qbC | apply qad))); (case hs => exact qtm _ (by rw [HSL.out]; omega)); rintro e w' ⟨rfl, ⟨nq, rfl⟩⟩)
     all_goals
      go_wp2
      refine bodyPost_ret (qpL rfl _ _ (w.heap.size + 1 + 1) 115 (ar6 (y.set 0 z)).toArray (0, 0) _ rfl (Is6.put6 (Y9.out.drewN _) (y.set 0 z)) Try.underlying115 rfl (by kernel_rfl)) rfl ?_; refine ⟨?_, ?_⟩
      ·
       show Ending.returned (.tuple #[.int .i64 (sumW (qfz n' l2 k)), .agg (ar6 (y.set 0 z)).toArray]) = _
       rw [HRn.out, ← HY.out, hz]
      ·
       have h1 : w.heap.size ≤ w.heap.size + 1 + 1 := by omega
       exact qaf (qaf (qaf (qaf (qaf (qaf (qad YB.out _) h1) h1) h1) h1) h1) h1
def qka (m : Nat) (mesh : Int) (keep spawn n : List Int) (take rec_ : Int) : Int × List Int :=
 (sumW (qfz (qgi mesh m n take).1 spawn m), (qgK ((m : Int) - 1) (qgi mesh m n take).1 keep m).set 0 (wrap64 (rd (qgK ((m : Int) - 1) (qgi mesh m n take).1 keep m) 0 + rec_)))
def okR (l0 l1 l2 : List Int) (a4 : Int) : Prop := 1 ≤ l0.length ∧ l0.length ≤ 6 ∧ l1.length = l0.length ∧ l2.length = l0.length ∧ 0 ≤ a4 ∧ a4 < (l0.length : Int)
instance (l0 l1 l2 : List Int) (a4 : Int) : Decidable (okR l0 l1 l2 a4) := by unfold okR; infer_instance
def qcT.f (l0_0 l0_1 l0_2 : List Int) (a0_3 a0_4 a1_0 a1_1 a1_2 a1_3 a1_4 a1_5 a2 a3 : Int) : Option (Int × Int × Int × Int × Int × Int × Int) :=
 if okR l0_0 l0_1 l0_2 a0_4 then
  some ((qka l0_0.length a0_4 l0_1 l0_2 [a1_0, a1_1, a1_2, a1_3, a1_4, a1_5] a2 a3).1,
   rd (qka l0_0.length a0_4 l0_1 l0_2 [a1_0, a1_1, a1_2, a1_3, a1_4, a1_5] a2 a3).2 0, rd (qka l0_0.length a0_4 l0_1 l0_2 [a1_0, a1_1, a1_2, a1_3, a1_4, a1_5] a2 a3).2 1,
   rd (qka l0_0.length a0_4 l0_1 l0_2 [a1_0, a1_1, a1_2, a1_3, a1_4, a1_5] a2 a3).2 2, rd (qka l0_0.length a0_4 l0_1 l0_2 [a1_0, a1_1, a1_2, a1_3, a1_4, a1_5] a2 a3).2 3,
   rd (qka l0_0.length a0_4 l0_1 l0_2 [a1_0, a1_1, a1_2, a1_3, a1_4, a1_5] a2 a3).2 4, rd (qka l0_0.length a0_4 l0_1 l0_2 [a1_0, a1_1, a1_2, a1_3, a1_4, a1_5] a2 a3).2 5)
 else none
theorem qcT.calls (A0_0 : Option Addr) (c0_0 : Nat) (l0_0 : List Int) (A0_1 : Option Addr) (c0_1 : Nat) (l0_1 : List Int) (A0_2 : Option Addr) (c0_2 : Nat) (l0_2 : List Int) (a0_3 a0_4 a1_0 a1_1 a1_2 a1_3 a1_4 a1_5 a2 a3 r1 r2 r3 r4 r5 r6 r7 : Int) (w : World)
  (qef : Kd.C (Kd.int .i64) w A0_0 l0_0.length l0_0) (qem : l0_0.length ≤ c0_0) (qeg : Kd.C (Kd.int .i64) w A0_1 l0_1.length l0_1) (qen : l0_1.length ≤ c0_1) (qeh : Kd.C (Kd.int .i64) w A0_2 l0_2.length l0_2) (qeo : l0_2.length ≤ c0_2)
  (h : qcT.f l0_0 l0_1 l0_2 a0_3 a0_4 a1_0 a1_1 a1_2 a1_3 a1_4 a1_5 a2 a3 = some (r1, r2, r3, r4, r5, r6, r7)) :
  Calls Try.prog 77 #[.agg #[.slice A0_0 l0_0.length c0_0, .slice A0_1 l0_1.length c0_1, .slice A0_2 l0_2.length c0_2, .int .i64 a0_3, .int .i64 a0_4], .agg #[.int .i64 a1_0, .int .i64 a1_1, .int .i64 a1_2, .int .i64 a1_3, .int .i64 a1_4, .int .i64 a1_5], .int .i64 a2, .int .i64 a3] w fun e w' =>
   e = .returned (.tuple #[.int .i64 r1, .agg #[.int .i64 r2, .int .i64 r3, .int .i64 r4, .int .i64 r5, .int .i64 r6, .int .i64 r7]]) ∧ Below w.heap.size w w' := by
 unfold qcT.f at h
 by_cases hv : okR l0_0 l0_1 l0_2 a0_4
 ·
  rw [if_pos hv] at h
  obtain ⟨h1, h2, h3, h4, h5, h6⟩ := hv
  injection h with h
  simp only [Prod.mk.injEq] at h
  obtain ⟨rfl, rfl, rfl, rfl, rfl, rfl, rfl⟩ := h
  exact qcT.calls6 A0_0 c0_0 l0_0.length A0_1 c0_1 l0_1 A0_2 c0_2 l0_2 a0_3 a0_4 [a1_0, a1_1, a1_2, a1_3, a1_4, a1_5] a2 a3 w rfl h1 h2 h3 h4 h5 h6 qeg qeh
 · rw [if_neg hv] at h; exact absurd h (by simp)
end Go.Proofs.Ytmhomdohhihlcaa.P
namespace Go.Proofs.Ytmhomdohhihlcaa.P
open Go.RowKit Go.Proofs.YtmhomdohhihlcaaW.PrintWords Go.Proofs.YtmhomdohhihlcaaW.PrintLast Go.Proofs.YtmhomdohhihlcaaW.PrintMore
attribute [local go_sem] qb2 qb4 qcg qch qbQ qbR qb3 qb5
mutual
def qaY.j0 : Nat → List Int → List Int → Bool → List Int → List Int → List Int → Int → Int → Option (List Int × Int)
 | 0, _, _, _, _, _, _, _, _ => none
 | k + 1, x1, x2, x9, qfi, qfj, qfk, qfl, qfm => qaY.l0 k x1 x2 x9 0 qfi qfj qfk qfl qfm
def qaY.l0 : Nat → List Int → List Int → Bool → Int → List Int → List Int → List Int → Int → Int → Option (List Int × Int)
 | 0, _, _, _, _, _, _, _, _, _ => none
 | k + 1, x1, x2, x9, x10, qfi, qfj, qfk, qfl, qfm => if x9 = true then (qaY.j2 k x1 x2 x9 x10 (decide (x10 < (x1.length : Int))) qfi qfj qfk qfl qfm) else (qaY.j2 k x1 x2 x9 x10 false qfi qfj qfk qfl qfm)
def qaY.j2 : Nat → List Int → List Int → Bool → Int → Bool → List Int → List Int → List Int → Int → Int → Option (List Int × Int)
 | 0, _, _, _, _, _, _, _, _, _, _ => none
 | k + 1, x1, x2, x9, x10, x39, qfi, qfj, qfk, qfl, qfm => if x39 = true then (if 0 ≤ x10 then (if x10 < (x1.length : Int) then ((qaD.f (rd x1 x10) 0 100000000).bind fun t159 => (if t159 = true then (if x10 < (x2.length : Int) then ((qaD.f (rd x2 x10) 0 100000).bind fun t161 => (qaY.l0 k x1 x2 t161 (wrap64 (x10 + 1)) qfi qfj qfk qfl qfm)) else (none)) else (qaY.l0 k x1 x2 false (wrap64 (x10 + 1)) qfi qfj qfk qfl qfm))) else (none)) else (none)) else (if x9 = true then ((qcK.f qfi qfj qfk qfl qfm).bind fun qeG => (qaY.l1 k x1 x2 ([] : List Int) (x1.length : Int) 0 qfi qfj qfk qfl qfm qeG.1 qeG.2.1 qeG.2.2.1 qeG.2.2.2.1 qeG.2.2.2.2.1 qeG.2.2.2.2.2)) else (some (([] : List Int), 92)))
def qaY.l1 : Nat → List Int → List Int → List Int → Int → Int → List Int → List Int → List Int → Int → Int → Int → Int → Int → Int → Int → Int → Option (List Int × Int)
 | 0, _, _, _, _, _, _, _, _, _, _, _, _, _, _, _, _ => none
 | k + 1, x1, x2, x13, x59, x60, qfi, qfj, qfk, qfl, qfm, qto, qtp, qtq, qtr, qts, qtt => if x60 < x59 then (if 0 ≤ x60 then (if x60 < (x1.length : Int) then (if x60 < (x2.length : Int) then ((qcT.f qfi qfj qfk qfl qfm qto qtp qtq qtr qts qtt (rd x1 x60) (rd x2 x60)).bind fun qj1 => (if x13.length < 17592186044416 then (qaY.l1 k x1 x2 (x13 ++ [qj1.1]) x59 (wrap64 (x60 + 1)) qfi qfj qfk qfl qfm qj1.2.1 qj1.2.2.1 qj1.2.2.2.1 qj1.2.2.2.2.1 qj1.2.2.2.2.2.1 qj1.2.2.2.2.2.2) else (none))) else (none)) else (none)) else (none)) else (if 0 ≤ (x13.length : Int) then (if (x13.length : Int) ≤ (x13.length : Int) then (some ((x13.take ((x13.length : Int) : Int).toNat), 0)) else (none)) else (none))
end
def qaY.f (k : Nat) (l0_0 : List Int) (l0_1 : List Int) (l0_2 : List Int) (a0_3 : Int) (a0_4 : Int) (l1 : List Int) (l2 : List Int) : Option (List Int × Int) := (qaE.f k l0_0 l0_1 l0_2 a0_3 a0_4).bind fun t156 => (if t156 = true then ((qaD.f (l1.length : Int) 1 10).bind fun t157 => (if t157 = true then (qaY.j0 k l1 l2 ((l2.length : Int) == (l1.length : Int)) l0_0 l0_1 l0_2 a0_3 a0_4) else (qaY.j0 k l1 l2 false l0_0 l0_1 l0_2 a0_3 a0_4))) else (qaY.j0 k l1 l2 false l0_0 l0_1 l0_2 a0_3 a0_4))
def qaY.T15 : Bool × List (List Nat × List Nat) := (true, [([], []), ([], []), ([], []), ([], []), ([], []), ([3, 4], [3, 4]), ([5], [5]), ([], []), ([], []), ([7, 8], [7, 8]), ([9], [9]), ([0, 1, 2, 6, 10], [0, 1, 2, 6, 10]), ([11], [11]), ([12], [12]), ([12], [12]), ([], []), ([13, 11, 0, 1, 2, 3, 4, 5, 6, 7, 8, 9, 10, 11, 12, 13, 15], [13]), ([15, 14, 16, 0, 1, 2, 3, 4, 5, 6, 7, 8, 9, 10, 11, 12, 13, 14, 15, 16], [14, 15])])
def qaY.B15 : List Nat := [0, 0, 0, 0, 0, 24, 56, 0, 0, 384, 896, 2047, 4095, 8191, 8191, 0, 49151, 131071]
theorem qaY.tab15 : rtab .any (qi4 Try.f25 15) = qaY.T15 := by kernel_rfl
theorem qaY.bits15 : qfh qaY.T15.2 qaY.B15 = true := by kernel_rfl
set_option maxHeartbeats 8000000 in
set_option maxRecDepth 100000 in
theorem qaY.calls (k : Nat) (A0_0 : Option Addr) (c0_0 : Nat) (l0_0 : List Int) (A0_1 : Option Addr) (c0_1 : Nat) (l0_1 : List Int) (A0_2 : Option Addr) (c0_2 : Nat) (l0_2 : List Int) (a0_3 : Int) (a0_4 : Int) (A1 : Option Addr) (c1 : Nat) (l1 : List Int) (A2 : Option Addr) (c2 : Nat) (l2 : List Int) (r1 : List Int) (r2 : Int) (w : World) (qef : Kd.C (Kd.int .i64) w A0_0 l0_0.length l0_0) (qem : l0_0.length ≤ c0_0) (qeg : Kd.C (Kd.int .i64) w A0_1 l0_1.length l0_1) (qen : l0_1.length ≤ c0_1) (qeh : Kd.C (Kd.int .i64) w A0_2 l0_2.length l0_2) (qeo : l0_2.length ≤ c0_2) (hr1 : Kd.C (Kd.int .i64) w A1 l1.length l1) (hc1 : l1.length ≤ c1) (hr2 : Kd.C (Kd.int .i64) w A2 l2.length l2) (hc2 : l2.length ≤ c2) (h : qaY.f k l0_0 l0_1 l0_2 a0_3 a0_4 l1 l2 = some (r1, r2)) :
  Calls Try.prog 25 #[.agg #[.slice A0_0 l0_0.length c0_0, .slice A0_1 l0_1.length c0_1, .slice A0_2 l0_2.length c0_2, .int .i64 a0_3, .int .i64 a0_4], .slice A1 l1.length c1, .slice A2 l2.length c2] w fun e w' => ∃ v0_ : Value, e = .returned (.tuple #[v0_, .int .i64 r2]) ∧ Kd.V (Kd.int .i64) 3 w' w.heap.size (fun k_ => (w.heap.size ≤ k_)) v0_ r1 ∧ Below w.heap.size w w' := by
 have hu39 := Try.underlying39
 have qpB := Try.underlying111
 have qvc := Try.underlying115
 have qdr := qaa.mk qef
 have qdH := qaa.mk qem
 clear qef qem
 have qdu := qaa.mk qeg
 have qdI := qaa.mk qen
 clear qeg qen
 have qdv := qaa.mk qeh
 have qdJ := qaa.mk qeo
 clear qeh qeo
 have HR1 := qaa.mk hr1
 have HC1 := qaa.mk hc1
 clear hr1 hc1
 have HR2 := qaa.mk hr2
 have HC2 := qaa.mk hc2
 clear hr2 hc2
 have HB := qaa.mk (Below.refl w.heap.size w)
 have H : ((qaE.f k l0_0 l0_1 l0_2 a0_3 a0_4).bind fun t156 => (if t156 = true then ((qaD.f (l1.length : Int) 1 10).bind fun t157 => (if t157 = true then (qaY.j0 k l1 l2 ((l2.length : Int) == (l1.length : Int)) l0_0 l0_1 l0_2 a0_3 a0_4) else (qaY.j0 k l1 l2 false l0_0 l0_1 l0_2 a0_3 a0_4))) else (qaY.j0 k l1 l2 false l0_0 l0_1 l0_2 a0_3 a0_4))) = some (r1, r2) := h
 clear h
 have HC4 := qaa.mk H
 clear H
 go_enter Try.func25, Try.ntmps25
 go_upto_region 2 with (first | ((with_reducible refine qa1 (N := 3) rfl ?_); (try (refine qdF (by rfl) ?_; dsimp only)); refine qbq ?hg (N := 3) ?hd (cs := #[.slice A0_0 l0_0.length c0_0, .slice A0_1 l0_1.length c0_1, .slice A0_2 l0_2.length c0_2, .int .i64 a0_3, .int .i64 a0_4]) (t := 39) ?hr ?_; (case hd => rfl); (case hg => rfl); (case hr => first | (go_simp; done) | (go_simp; rfl)); intro qcI hg w5 hbox hb; have n0_ := qaa.mk (qaA (by repeat (first | (with_reducible first | exact HB.out | apply qag | apply qad | apply qah) | exact HB.out)) hb); have n1_ := qaa.mk (hbox); have n2_ := qaa.mk ((by rw [hg]; exact (qav (by repeat (first | (with_reducible first | exact HB.out | apply qag | apply qad | apply qah) | exact HB.out))) : w.heap.size ≤ qcI)); have n3_ := qaa.mk ((by rw [hg]; exact (qav (by repeat (first | (with_reducible first | exact HB.out | apply qag | apply qad | apply qah) | exact HB.out))) : w.heap.size ≤ qcI)); clear HB; have HB := n0_; have qbw := n1_; have qCt := n2_; have qcF := n3_; clear n0_ n1_ n2_ n3_; clear hb hbox hg; have qiN : w5.cell? ⟨qcI, 0, none⟩ = some (.slice A0_0 l0_0.length c0_0) := (qai qbw.out 0).trans rfl; have qiO : w5.cell? ⟨qcI, 1, none⟩ = some (.slice A0_1 l0_1.length c0_1) := (qai qbw.out 1).trans rfl; have qjn : w5.cell? ⟨qcI, 2, none⟩ = some (.slice A0_2 l0_2.length c0_2) := (qai qbw.out 2).trans rfl; have qlF : w5.cell? ⟨qcI, 3, none⟩ = some (.int .i64 a0_3) := (qai qbw.out 3).trans rfl; have qlG : w5.cell? ⟨qcI, 4, none⟩ = some (.int .i64 a0_4) := (qai qbw.out 4).trans rfl; have qiP := qaj qbw.out 0; have qiQ := qaj qbw.out 1; have qjz := qaj qbw.out 2; have qlJ := qaj qbw.out 3; have qlK := qaj qbw.out 4) | ((with_reducible refine qa1 (N := 8) rfl ?_); (try (refine qdF (by rfl) ?_; dsimp only)); refine qbq ?hg (N := 8) ?hd (cs := #[.slice none 0 0, .slice none 0 0, .slice none 0 0, .int .i64 0, .int .i64 0]) (t := 111) ?hr ?_; (case hd => rfl); (case hg => rfl); (case hr => first | (go_simp; done) | (go_simp; rfl)); intro qbE hg w7 hbox hb; have n0_ := qaa.mk (qar (g := qcI) (o := .cells #[.slice A0_0 l0_0.length c0_0, .slice A0_1 l0_1.length c0_1, .slice A0_2 l0_2.length c0_2, .int .i64 a0_3, .int .i64 a0_4] 39 (0, 0)) (by (with_reducible repeat (first | refine qac ?_ _ | refine qae ?_ | refine qab ?_ _)); exact qbw.out) hb); have n1_ := qaa.mk (qaA (by repeat (first | (with_reducible first | exact HB.out | apply qag | apply qad | apply qah | refine qaf ?_ qcF.out) | exact HB.out)) hb); have n2_ := qaa.mk (hbox); have n3_ := qaa.mk ((by rw [hg]; exact (qav (by repeat (first | (with_reducible first | exact HB.out | apply qag | apply qad | apply qah | refine qaf ?_ qcF.out) | exact HB.out))) : w.heap.size ≤ qbE)); have n4_ := qaa.mk ((by rw [hg]; exact (qav (by repeat (first | (with_reducible first | exact HB.out | apply qag | apply qad | apply qah | refine qaf ?_ qcF.out) | exact HB.out))) : w.heap.size ≤ qbE)); have n5_ := qaa.mk ((by rw [hg]; exact Nat.ne_of_lt (qaN (g := qcI) (o := .cells #[.slice A0_0 l0_0.length c0_0, .slice A0_1 l0_1.length c0_1, .slice A0_2 l0_2.length c0_2, .int .i64 a0_3, .int .i64 a0_4] 39 (0, 0)) (by (with_reducible repeat (first | refine qac ?_ _ | refine qae ?_ | refine qab ?_ _)); exact qbw.out)) : qcI ≠ qbE)); have n6_ := qaa.mk ((by rw [hg]; exact Nat.ne_of_gt (qaN (g := qcI) (o := .cells #[.slice A0_0 l0_0.length c0_0, .slice A0_1 l0_1.length c0_1, .slice A0_2 l0_2.length c0_2, .int .i64 a0_3, .int .i64 a0_4] 39 (0, 0)) (by (with_reducible repeat (first | refine qac ?_ _ | refine qae ?_ | refine qab ?_ _)); exact qbw.out)) : qbE ≠ qcI)); clear qbw; clear HB; have qbw := n0_; have HB := n1_; have qaX := n2_; have qCu := n3_; have qcQ := n4_; have qdb := n5_; have qia := n6_; clear n0_ n1_ n2_ n3_ n4_ n5_ n6_; clear hb hbox hg; have hnb8 := qia.out; have hnc8 := qdb.out; have qdR : w7.cell? ⟨qbE, 0, none⟩ = some (.slice none 0 0) := (qai qaX.out 0).trans rfl; have qdS : w7.cell? ⟨qbE, 1, none⟩ = some (.slice none 0 0) := (qai qaX.out 1).trans rfl; have qe1 : w7.cell? ⟨qbE, 2, none⟩ = some (.slice none 0 0) := (qai qaX.out 2).trans rfl; have qlH : w7.cell? ⟨qbE, 3, none⟩ = some (.int .i64 0) := (qai qaX.out 3).trans rfl; have qlI : w7.cell? ⟨qbE, 4, none⟩ = some (.int .i64 0) := (qai qaX.out 4).trans rfl; have qdT := qaj qaX.out 0; have qdU := qaj qaX.out 1; have qe3 := qaj qaX.out 2; have qlL := qaj qaX.out 3; have qlM := qaj qaX.out 4))
 (try simp only [qaq, qam, qap, qao, qan])
 go_cut [9] (fun v9 wc => ∃ (kq : Nat) (x9_3 : Bool), v9 = .bool x9_3 ∧ qaa (qaY.j0 kq l1 l2 x9_3 l0_0 l0_1 l0_2 a0_3 a0_4 = some (r1, r2)) ∧ qaa (kq ≤ k) ∧ qaa (wc.heap[qcI]? = some (.cells #[(.slice A0_0 l0_0.length c0_0), (.slice A0_1 l0_1.length c0_1), (.slice A0_2 l0_2.length c0_2), .int .i64 a0_3, .int .i64 a0_4] 39 (0, 0))) ∧ qaa (wc.heap[qbE]? = some (.cells #[(.slice A0_0 l0_0.length c0_0), (.slice A0_1 l0_1.length c0_1), (.slice A0_2 l0_2.length c0_2), .int .i64 a0_3, .int .i64 a0_4] 111 (0, 0))) ∧ qaa (Below w.heap.size w wc))
 case first =>
  have H := HC4.out
  clear HC4
  replace H := Option.bind_eq_some_iff.mp H
  obtain ⟨t156, A100, H⟩ := H
  replace H : (if t156 = true then ((qaD.f (l1.length : Int) 1 10).bind fun t157 => (if t157 = true then (qaY.j0 k l1 l2 ((l2.length : Int) == (l1.length : Int)) l0_0 l0_1 l0_2 a0_3 a0_4) else (qaY.j0 k l1 l2 false l0_0 l0_1 l0_2 a0_3 a0_4))) else (qaY.j0 k l1 l2 false l0_0 l0_1 l0_2 a0_3 a0_4)) = some (r1, r2) := H
  have A10 := qaa.mk A100
  clear A100
  by_cases c11 : t156 = true
  ·
   subst c11
   have H1 : ((qaD.f (l1.length : Int) 1 10).bind fun t157 => (if t157 = true then (qaY.j0 k l1 l2 ((l2.length : Int) == (l1.length : Int)) l0_0 l0_1 l0_2 a0_3 a0_4) else (qaY.j0 k l1 l2 false l0_0 l0_1 l0_2 a0_3 a0_4))) = some (r1, r2) := by rw [if_pos rfl] at H; exact H
   clear H
   have H := H1
   clear H1
   replace H := Option.bind_eq_some_iff.mp H
   obtain ⟨t157, A120, H⟩ := H
   replace H : (if t157 = true then (qaY.j0 k l1 l2 ((l2.length : Int) == (l1.length : Int)) l0_0 l0_1 l0_2 a0_3 a0_4) else (qaY.j0 k l1 l2 false l0_0 l0_1 l0_2 a0_3 a0_4)) = some (r1, r2) := H
   have A12 := qaa.mk A120
   clear A120
   by_cases c13 : t157 = true
   ·
    subst c13
    have H1 : (qaY.j0 k l1 l2 ((l2.length : Int) == (l1.length : Int)) l0_0 l0_1 l0_2 a0_3 a0_4) = some (r1, r2) := by rw [if_pos rfl] at H; exact H
    clear H; have H := H1; clear H1; have H' := qaa.mk H; clear H; have qDe := qia.out; have qDS := qdb.out; have qgq : w7.cell? ⟨qbE, 0, none⟩ = some (.slice none 0 0) := (qai qaX.out 0).trans rfl; have qgr : w7.cell? ⟨qbE, 1, none⟩ = some (.slice none 0 0) := (qai qaX.out 1).trans rfl; have qgW : w7.cell? ⟨qbE, 2, none⟩ = some (.slice none 0 0) := (qai qaX.out 2).trans rfl; have qgX : w7.cell? ⟨qbE, 3, none⟩ = some (.int .i64 0) := (qai qaX.out 3).trans rfl; have qgY : w7.cell? ⟨qbE, 4, none⟩ = some (.int .i64 0) := (qai qaX.out 4).trans rfl; have qgt := qaj qaX.out 0; have qgu := qaj qaX.out 1; have qg6 := qaj qaX.out 2; have qg7 := qaj qaX.out 3; have qg8 := qaj qaX.out 4
    go_wp2_with (first | ((with_reducible refine qaT (f := 76) rfl ?_); refine qbs (some 20) rfl rfl Try.func76 (by kernel_rfl) rfl #[.agg #[.slice A0_0 l0_0.length c0_0, .slice A0_1 l0_1.length c0_1, .slice A0_2 l0_2.length c0_2, .int .i64 a0_3, .int .i64 a0_4]] rfl (by (try simp only [List.map_toArray, List.map_cons, List.map_nil]); first | done | rfl | (simp only [List.length_drop, List.length_take]; rfl)) ?_; (with_reducible refine (qaE.calls k _ _ l0_0 _ _ l0_1 _ _ l0_2 a0_3 a0_4 true _ ?side1 ?side2 ?side3 ?side4 ?side5 ?side6 A10.out).mono ?_); (case side1 => exact Kd.C_below qdr.out (by repeat (first | (with_reducible first | exact HB.out | apply qag | apply qad | apply qah | refine qaf ?_ qcF.out | refine qaf ?_ qcQ.out) | exact HB.out))); (case side2 => exact qdH.out); (case side3 => exact Kd.C_below qdu.out (by repeat (first | (with_reducible first | exact HB.out | apply qag | apply qad | apply qah | refine qaf ?_ qcF.out | refine qaf ?_ qcQ.out) | exact HB.out))); (case side4 => exact qdI.out); (case side5 => exact Kd.C_below qdv.out (by repeat (first | (with_reducible first | exact HB.out | apply qag | apply qad | apply qah | refine qaf ?_ qcF.out | refine qaf ?_ qcQ.out) | exact HB.out))); (case side6 => exact qdJ.out); rintro e w16 ⟨rfl, hb⟩; refine ⟨_, rfl, ?_⟩; have n0_ := qaa.mk (qar (g := qcI) (o := .cells #[.slice A0_0 l0_0.length c0_0, .slice A0_1 l0_1.length c0_1, .slice A0_2 l0_2.length c0_2, .int .i64 a0_3, .int .i64 a0_4] 39 (0, 0)) (by (with_reducible repeat (first | refine qac ?_ _ | refine qae ?_ | refine qab ?_ _)); refine qau ?_ qdb.out _; (with_reducible repeat (first | refine qac ?_ _ | refine qae ?_ | refine qab ?_ _)); refine qau ?_ qdb.out _; (with_reducible repeat (first | refine qac ?_ _ | refine qae ?_ | refine qab ?_ _)); refine qau ?_ qdb.out _; (with_reducible repeat (first | refine qac ?_ _ | refine qae ?_ | refine qab ?_ _)); refine qau ?_ qdb.out _; (with_reducible repeat (first | refine qac ?_ _ | refine qae ?_ | refine qab ?_ _)); refine qau ?_ qdb.out _; (with_reducible repeat (first | refine qac ?_ _ | refine qae ?_ | refine qab ?_ _)); exact qbw.out) hb); have n1_ := qaa.mk (qar (g := qbE) (o := .cells #[.slice A0_0 l0_0.length c0_0, .slice A0_1 l0_1.length c0_1, .slice A0_2 l0_2.length c0_2, .int .i64 a0_3, .int .i64 a0_4] 111 (0, 0)) (by (with_reducible repeat (first | refine qac ?_ _ | refine qae ?_ | refine qab ?_ _)); refine qaH (cs := #[.slice A0_0 l0_0.length c0_0, .slice A0_1 l0_1.length c0_1, .slice A0_2 l0_2.length c0_2, .int .i64 a0_3, .int .i64 0]) ?_ 4 _ rfl; (with_reducible repeat (first | refine qac ?_ _ | refine qae ?_ | refine qab ?_ _)); refine qaH (cs := #[.slice A0_0 l0_0.length c0_0, .slice A0_1 l0_1.length c0_1, .slice A0_2 l0_2.length c0_2, .int .i64 0, .int .i64 0]) ?_ 3 _ rfl; (with_reducible repeat (first | refine qac ?_ _ | refine qae ?_ | refine qab ?_ _)); refine qaH (cs := #[.slice A0_0 l0_0.length c0_0, .slice A0_1 l0_1.length c0_1, .slice none 0 0, .int .i64 0, .int .i64 0]) ?_ 2 _ rfl; (with_reducible repeat (first | refine qac ?_ _ | refine qae ?_ | refine qab ?_ _)); refine qaH (cs := #[.slice A0_0 l0_0.length c0_0, .slice none 0 0, .slice none 0 0, .int .i64 0, .int .i64 0]) ?_ 1 _ rfl; (with_reducible repeat (first | refine qac ?_ _ | refine qae ?_ | refine qab ?_ _)); refine qaH (cs := #[.slice none 0 0, .slice none 0 0, .slice none 0 0, .int .i64 0, .int .i64 0]) ?_ 0 _ rfl; (with_reducible repeat (first | refine qac ?_ _ | refine qae ?_ | refine qab ?_ _)); exact qaX.out) hb); have n2_ := qaa.mk (qaA (by repeat (first | (with_reducible first | exact HB.out | apply qag | apply qad | apply qah | refine qaf ?_ qcF.out | refine qaf ?_ qcQ.out) | exact HB.out)) hb); clear qbw; clear qaX; clear HB; have qbw := n0_; have qaX := n1_; have HB := n2_; clear n0_ n1_ n2_; (try clear hb); (try clear hb2); (try clear hk); (try clear hi)) | (go_at_call 65; (with_reducible refine (qaD.calls (l1.length : Int) 1 10 true _ A12.out).mono ?_); rintro e w' ⟨rfl, ⟨nd, rfl⟩⟩))
    go_meet
    case rel => exact ⟨_, (((l2.length : Int) == (l1.length : Int))), (by first | rfl | (simp; done) | (simp [*]; done)), H', ⟨by first | omega | exact Nat.le_refl _⟩, ⟨by (with_reducible repeat (first | refine qac ?_ _ | refine qae ?_ | refine qab ?_ _)); exact qbw.out⟩, ⟨by (with_reducible repeat (first | refine qac ?_ _ | refine qae ?_ | refine qab ?_ _)); exact qaX.out⟩, ⟨by repeat (first | (with_reducible first | exact HB.out | apply qag | apply qad | apply qah | refine qaf ?_ qcF.out | refine qaf ?_ qcQ.out) | exact HB.out)⟩⟩
   replace c13 := Bool.eq_false_iff.mpr c13
   subst c13
   have H1 : (qaY.j0 k l1 l2 false l0_0 l0_1 l0_2 a0_3 a0_4) = some (r1, r2) := by rw [if_neg (show ¬ (false = true) by decide)] at H; exact H
   clear H
   have H := H1
   clear H1
   have H' := qaa.mk H
   clear H
   have quG := qia.out
   have quW := qdb.out
   have qgZ : w7.cell? ⟨qbE, 0, none⟩ = some (.slice none 0 0) := (qai qaX.out 0).trans rfl
   have qg0 : w7.cell? ⟨qbE, 1, none⟩ = some (.slice none 0 0) := (qai qaX.out 1).trans rfl
   have qg1 : w7.cell? ⟨qbE, 2, none⟩ = some (.slice none 0 0) := (qai qaX.out 2).trans rfl
   have qkD : w7.cell? ⟨qbE, 3, none⟩ = some (.int .i64 0) := (qai qaX.out 3).trans rfl
   have qkE : w7.cell? ⟨qbE, 4, none⟩ = some (.int .i64 0) := (qai qaX.out 4).trans rfl
   have qg9 := qaj qaX.out 0
   have qha := qaj qaX.out 1
   have qhb := qaj qaX.out 2
   have qkO := qaj qaX.out 3
   have qkP := qaj qaX.out 4
   go_wp2_with (first | ((with_reducible refine qaT (f := 76) rfl ?_); refine qbs (some 20) rfl rfl Try.func76 (by kernel_rfl) rfl #[.agg #[.slice A0_0 l0_0.length c0_0, .slice A0_1 l0_1.length c0_1, .slice A0_2 l0_2.length c0_2, .int .i64 a0_3, .int .i64 a0_4]] rfl (by (try simp only [List.map_toArray, List.map_cons, List.map_nil]); first | done | rfl | (simp only [List.length_drop, List.length_take]; rfl)) ?_; (with_reducible refine (qaE.calls k _ _ l0_0 _ _ l0_1 _ _ l0_2 a0_3 a0_4 true _ ?side1 ?side2 ?side3 ?side4 ?side5 ?side6 A10.out).mono ?_); (case side1 => exact Kd.C_below qdr.out (by repeat (first | (with_reducible first | exact HB.out | apply qag | apply qad | apply qah | refine qaf ?_ qcF.out | refine qaf ?_ qcQ.out) | exact HB.out))); (case side2 => exact qdH.out); (case side3 => exact Kd.C_below qdu.out (by repeat (first | (with_reducible first | exact HB.out | apply qag | apply qad | apply qah | refine qaf ?_ qcF.out | refine qaf ?_ qcQ.out) | exact HB.out))); (case side4 => exact qdI.out); (case side5 => exact Kd.C_below qdv.out (by repeat (first | (with_reducible first | exact HB.out | apply qag | apply qad | apply qah | refine qaf ?_ qcF.out | refine qaf ?_ qcQ.out) | exact HB.out))); (case side6 => exact qdJ.out); rintro e w19 ⟨rfl, hb⟩; refine ⟨_, rfl, ?_⟩; have n0_ := qaa.mk (qar (g := qcI) (o := .cells #[.slice A0_0 l0_0.length c0_0, .slice A0_1 l0_1.length c0_1, .slice A0_2 l0_2.length c0_2, .int .i64 a0_3, .int .i64 a0_4] 39 (0, 0)) (by (with_reducible repeat (first | refine qac ?_ _ | refine qae ?_ | refine qab ?_ _)); refine qau ?_ qdb.out _; (with_reducible repeat (first | refine qac ?_ _ | refine qae ?_ | refine qab ?_ _)); refine qau ?_ qdb.out _; (with_reducible repeat (first | refine qac ?_ _ | refine qae ?_ | refine qab ?_ _)); refine qau ?_ qdb.out _; (with_reducible repeat (first | refine qac ?_ _ | refine qae ?_ | refine qab ?_ _)); refine qau ?_ qdb.out _; (with_reducible repeat (first | refine qac ?_ _ | refine qae ?_ | refine qab ?_ _)); refine qau ?_ qdb.out _; (with_reducible repeat (first | refine qac ?_ _ | refine qae ?_ | refine qab ?_ _)); exact qbw.out) hb); have n1_ := qaa.mk (qar (g := qbE) (o := .cells #[.slice A0_0 l0_0.length c0_0, .slice A0_1 l0_1.length c0_1, .slice A0_2 l0_2.length c0_2, .int .i64 a0_3, .int .i64 a0_4] 111 (0, 0)) (by (with_reducible repeat (first | refine qac ?_ _ | refine qae ?_ | refine qab ?_ _)); refine qaH (cs := #[.slice A0_0 l0_0.length c0_0, .slice A0_1 l0_1.length c0_1, .slice A0_2 l0_2.length c0_2, .int .i64 a0_3, .int .i64 0]) ?_ 4 _ rfl; (with_reducible repeat (first | refine qac ?_ _ | refine qae ?_ | refine qab ?_ _)); refine qaH (cs := #[.slice A0_0 l0_0.length c0_0, .slice A0_1 l0_1.length c0_1, .slice A0_2 l0_2.length c0_2, .int .i64 0, .int .i64 0]) ?_ 3 _ rfl; (with_reducible repeat (first | refine qac ?_ _ | refine qae ?_ | refine qab ?_ _)); refine qaH (cs := #[.slice A0_0 l0_0.length c0_0, .slice A0_1 l0_1.length c0_1, .slice none 0 0, .int .i64 0, .int .i64 0]) ?_ 2 _ rfl; (with_reducible repeat (first | refine qac ?_ _ | refine qae ?_ | refine qab ?_ _)); refine qaH (cs := #[.slice A0_0 l0_0.length c0_0, .slice none 0 0, .slice none 0 0, .int .i64 0, .int .i64 0]) ?_ 1 _ rfl; (with_reducible repeat (first | refine qac ?_ _ | refine qae ?_ | refine qab ?_ _)); refine qaH (cs := #[.slice none 0 0, .slice none 0 0, .slice none 0 0, .int .i64 0, .int .i64 0]) ?_ 0 _ rfl; (with_reducible repeat (first | refine qac ?_ _ | refine qae ?_ | refine qab ?_ _)); exact qaX.out) hb); have n2_ := qaa.mk (qaA (by repeat (first | (with_reducible first | exact HB.out | apply qag | apply qad | apply qah | refine qaf ?_ qcF.out | refine qaf ?_ qcQ.out) | exact HB.out)) hb); clear qbw; clear qaX; clear HB; have qbw := n0_; have qaX := n1_; have HB := n2_; clear n0_ n1_ n2_; (try clear hb); (try clear hb2); (try clear hk); (try clear hi)) | (go_at_call 65; (with_reducible refine (qaD.calls (l1.length : Int) 1 10 false _ A12.out).mono ?_); rintro e w' ⟨rfl, ⟨nd, rfl⟩⟩))
   go_meet
   case rel => exact ⟨_, (false), (by first | rfl | (simp; done) | (simp [*]; done)), H', ⟨by first | omega | exact Nat.le_refl _⟩, ⟨by (with_reducible repeat (first | refine qac ?_ _ | refine qae ?_ | refine qab ?_ _)); exact qbw.out⟩, ⟨by (with_reducible repeat (first | refine qac ?_ _ | refine qae ?_ | refine qab ?_ _)); exact qaX.out⟩, ⟨by repeat (first | (with_reducible first | exact HB.out | apply qag | apply qad | apply qah | refine qaf ?_ qcF.out | refine qaf ?_ qcQ.out) | exact HB.out)⟩⟩
  replace c11 := Bool.eq_false_iff.mpr c11
  subst c11
  have H1 : (qaY.j0 k l1 l2 false l0_0 l0_1 l0_2 a0_3 a0_4) = some (r1, r2) := by rw [if_neg (show ¬ (false = true) by decide)] at H; exact H
  clear H
  have H := H1
  clear H1
  have H' := qaa.mk H
  clear H
  have qru := qia.out
  have qrw := qdb.out
  have qer : w7.cell? ⟨qbE, 0, none⟩ = some (.slice none 0 0) := (qai qaX.out 0).trans rfl
  have qes : w7.cell? ⟨qbE, 1, none⟩ = some (.slice none 0 0) := (qai qaX.out 1).trans rfl
  have qgs : w7.cell? ⟨qbE, 2, none⟩ = some (.slice none 0 0) := (qai qaX.out 2).trans rfl
  have qkF : w7.cell? ⟨qbE, 3, none⟩ = some (.int .i64 0) := (qai qaX.out 3).trans rfl
  have qkG : w7.cell? ⟨qbE, 4, none⟩ = some (.int .i64 0) := (qai qaX.out 4).trans rfl
  have qev := qaj qaX.out 0
  have qew := qaj qaX.out 1
  have qgv := qaj qaX.out 2
  have qkQ := qaj qaX.out 3
  have qkR := qaj qaX.out 4
  go_wp2_with (first | ((with_reducible refine qaT (f := 76) rfl ?_); refine qbs (some 20) rfl rfl Try.func76 (by kernel_rfl) rfl #[.agg #[.slice A0_0 l0_0.length c0_0, .slice A0_1 l0_1.length c0_1, .slice A0_2 l0_2.length c0_2, .int .i64 a0_3, .int .i64 a0_4]] rfl (by (try simp only [List.map_toArray, List.map_cons, List.map_nil]); first | done | rfl | (simp only [List.length_drop, List.length_take]; rfl)) ?_; (with_reducible refine (qaE.calls k _ _ l0_0 _ _ l0_1 _ _ l0_2 a0_3 a0_4 false _ ?side1 ?side2 ?side3 ?side4 ?side5 ?side6 A10.out).mono ?_); (case side1 => exact Kd.C_below qdr.out (by repeat (first | (with_reducible first | exact HB.out | apply qag | apply qad | apply qah | refine qaf ?_ qcF.out | refine qaf ?_ qcQ.out) | exact HB.out))); (case side2 => exact qdH.out); (case side3 => exact Kd.C_below qdu.out (by repeat (first | (with_reducible first | exact HB.out | apply qag | apply qad | apply qah | refine qaf ?_ qcF.out | refine qaf ?_ qcQ.out) | exact HB.out))); (case side4 => exact qdI.out); (case side5 => exact Kd.C_below qdv.out (by repeat (first | (with_reducible first | exact HB.out | apply qag | apply qad | apply qah | refine qaf ?_ qcF.out | refine qaf ?_ qcQ.out) | exact HB.out))); (case side6 => exact qdJ.out); rintro e w22 ⟨rfl, hb⟩; refine ⟨_, rfl, ?_⟩; have n0_ := qaa.mk (qar (g := qcI) (o := .cells #[.slice A0_0 l0_0.length c0_0, .slice A0_1 l0_1.length c0_1, .slice A0_2 l0_2.length c0_2, .int .i64 a0_3, .int .i64 a0_4] 39 (0, 0)) (by (with_reducible repeat (first | refine qac ?_ _ | refine qae ?_ | refine qab ?_ _)); refine qau ?_ qdb.out _; (with_reducible repeat (first | refine qac ?_ _ | refine qae ?_ | refine qab ?_ _)); refine qau ?_ qdb.out _; (with_reducible repeat (first | refine qac ?_ _ | refine qae ?_ | refine qab ?_ _)); refine qau ?_ qdb.out _; (with_reducible repeat (first | refine qac ?_ _ | refine qae ?_ | refine qab ?_ _)); refine qau ?_ qdb.out _; (with_reducible repeat (first | refine qac ?_ _ | refine qae ?_ | refine qab ?_ _)); refine qau ?_ qdb.out _; (with_reducible repeat (first | refine qac ?_ _ | refine qae ?_ | refine qab ?_ _)); exact qbw.out) hb); have n1_ := qaa.mk (qar (g := qbE) (o := .cells #[.slice A0_0 l0_0.length c0_0, .slice A0_1 l0_1.length c0_1, .slice A0_2 l0_2.length c0_2, .int .i64 a0_3, .int .i64 a0_4] 111 (0, 0)) (by (with_reducible repeat (first | refine qac ?_ _ | refine qae ?_ | refine qab ?_ _)); refine qaH (cs := #[.slice A0_0 l0_0.length c0_0, .slice A0_1 l0_1.length c0_1, .slice A0_2 l0_2.length c0_2, .int .i64 a0_3, .int .i64 0]) ?_ 4 _ rfl; (with_reducible repeat (first | refine qac ?_ _ | refine qae ?_ | refine qab ?_ _)); refine qaH (cs := #[.slice A0_0 l0_0.length c0_0, .slice A0_1 l0_1.length c0_1, .slice A0_2 l0_2.length c0_2, .int .i64 0, .int .i64 0]) ?_ 3 _ rfl; (with_reducible repeat (first | refine qac ?_ _ | refine qae ?_ | refine qab ?_ _)); refine qaH (cs := #[.slice A0_0 l0_0.length c0_0, .slice A0_1 l0_1.length c0_1, .slice none 0 0, .int .i64 0, .int .i64 0]) ?_ 2 _ rfl; (with_reducible repeat (first | refine qac ?_ _ | refine qae ?_ | refine qab ?_ _)); refine qaH (cs := #[.slice A0_0 l0_0.length c0_0, .slice none 0 0, .slice none 0 0, .int .i64 0, .int .i64 0]) ?_ 1 _ rfl; (with_reducible repeat (first | refine qac ?_ _ | refine qae ?_ | refine qab ?_ _)); refine qaH (cs := #[.slice none 0 0, .slice none 0 0, .slice none 0 0, .int .i64 0, .int .i64 0]) ?_ 0 _ rfl; (with_reducible repeat (first | refine qac ?_ _ | refine qae ?_ | refine qab ?_ _)); exact qaX.out) hb); have n2_ := qaa.mk (qaA (by repeat (first | (with_reducible first | exact HB.out | apply qag | apply qad | apply qah | refine qaf ?_ qcF.out | refine qaf ?_ qcQ.out) | exact HB.out)) hb); clear qbw; clear qaX; clear HB; have qbw := n0_; have qaX := n1_; have HB := n2_; clear n0_ n1_ n2_; (try clear hb); (try clear hb2); (try clear hk); (try clear hi)))
  go_meet
  case rel => exact ⟨_, (false), (by first | rfl | (simp; done) | (simp [*]; done)), H', ⟨by first | omega | exact Nat.le_refl _⟩, ⟨by (with_reducible repeat (first | refine qac ?_ _ | refine qae ?_ | refine qab ?_ _)); exact qbw.out⟩, ⟨by (with_reducible repeat (first | refine qac ?_ _ | refine qae ?_ | refine qab ?_ _)); exact qaX.out⟩, ⟨by repeat (first | (with_reducible first | exact HB.out | apply qag | apply qad | apply qah | refine qaf ?_ qcF.out | refine qaf ?_ qcQ.out) | exact HB.out)⟩⟩
 clear HC4
 try clear c1
 try clear c2
 try clear p2
 try clear c7
 try clear c8
 try clear c11
 try clear c13
 try clear c14
 try clear c17
 try clear c20
 try clear qgq
 try clear qgr
 try clear qgW
 try clear qgX
 try clear qgY
 try clear qgZ
 try clear qg0
 try clear qg1
 try clear qkD
 try clear qkE
 try clear qer
 try clear qes
 try clear qgs
 try clear qkF
 try clear qkG
 try clear qiN
 try clear qiO
 try clear qjn
 try clear qlF
 try clear qlG
 try clear qdR
 try clear qdS
 try clear qe1
 try clear qlH
 try clear qlI
 try clear qgt
 try clear qgu
 try clear qg6
 try clear qg7
 try clear qg8
 try clear qg9
 try clear qha
 try clear qhb
 try clear qkO
 try clear qkP
 try clear qev
 try clear qew
 try clear qgv
 try clear qkQ
 try clear qkR
 try clear qiP
 try clear qiQ
 try clear qjz
 try clear qlJ
 try clear qlK
 try clear qdT
 try clear qdU
 try clear qe3
 try clear qlL
 try clear qlM
 obtain ⟨kq, x9_3, rfl, HA, HJ3, qbw, qaX, HB⟩ := hcut
 cases kq with
 | zero => exact absurd HA.out (by simp [qaY.j0])
 | succ kj3 =>
  have H := HA.out
  clear HA
  simp only [qaY.j0] at H
  have H' := qaa.mk H
  clear H
  go_wp2
  go_loopg [9, 10] kj3 (fun kq v9 v10 w' => ∃ (x9_2 : Bool) (qcA : Int), v9 = .bool x9_2 ∧ v10 = .int .i64 qcA ∧ qaa (qaY.l0 kq l1 l2 x9_2 qcA l0_0 l0_1 l0_2 a0_3 a0_4 = some (r1, r2)) ∧ qaa (kq ≤ kj3) ∧ qaa (w'.heap[qcI]? = some (.cells #[(.slice A0_0 l0_0.length c0_0), (.slice A0_1 l0_1.length c0_1), (.slice A0_2 l0_2.length c0_2), .int .i64 a0_3, .int .i64 a0_4] 39 (0, 0))) ∧ qaa (w'.heap[qbE]? = some (.cells #[(.slice A0_0 l0_0.length c0_0), (.slice A0_1 l0_1.length c0_1), (.slice A0_2 l0_2.length c0_2), .int .i64 a0_3, .int .i64 a0_4] 111 (0, 0))) ∧ qaa (Below w.heap.size w w'))
  case atStart => exact ⟨(x9_3), (0), (by first | rfl | (simp; done) | (simp [*]; done)), (by first | rfl | (simp; done) | (simp [*]; done)), H', ⟨Nat.le_refl _⟩, ⟨by (with_reducible repeat (first | refine qac ?_ _ | refine qae ?_ | refine qab ?_ _)); exact qbw.out⟩, ⟨by (with_reducible repeat (first | refine qac ?_ _ | refine qae ?_ | refine qab ?_ _)); exact qaX.out⟩, ⟨by repeat (first | (with_reducible first | exact HB.out | apply qag | apply qad | apply qah | refine qaf ?_ qcF.out | refine qaf ?_ qcQ.out) | exact HB.out)⟩⟩
  clear H'
  try clear c1
  try clear c2
  try clear p2
  try clear c7
  try clear c8
  try clear c11
  try clear c13
  try clear c14
  try clear c17
  try clear c20
  try clear qgq
  try clear qgr
  try clear qgW
  try clear qgX
  try clear qgY
  try clear qgZ
  try clear qg0
  try clear qg1
  try clear qkD
  try clear qkE
  try clear qer
  try clear qes
  try clear qgs
  try clear qkF
  try clear qkG
  try clear qiN
  try clear qiO
  try clear qjn
  try clear qlF
  try clear qlG
  try clear qdR
  try clear qdS
  try clear qe1
  try clear qlH
  try clear qlI
  try clear qgt
  try clear qgu
  try clear qg6
  try clear qg7
  try clear qg8
  try clear qg9
  try clear qha
  try clear qhb
  try clear qkO
  try clear qkP
  try clear qev
  try clear qew
  try clear qgv
  try clear qkQ
  try clear qkR
  try clear qiP
  try clear qiQ
  try clear qjz
  try clear qlJ
  try clear qlK
  try clear qdT
  try clear qdU
  try clear qe3
  try clear qlL
  try clear qlM
  try clear p2
  obtain ⟨x9_2, qcA, rfl, rfl, HA, HK2, qbw, qaX, HB⟩ := hrel
  cases gk with
  | zero => exact absurd HA.out (by simp [qaY.l0])
  | succ k2 =>
   have H := HA.out
   clear HA
   simp only [qaY.l0] at H
   have HC23 := qaa.mk H
   clear H
   go_upto_region 4 with (fail)
   go_cut [39] (fun v39 wc => ∃ (kq : Nat) (qmk : Bool), v39 = .bool qmk ∧ qaa (qaY.j2 kq l1 l2 x9_2 qcA qmk l0_0 l0_1 l0_2 a0_3 a0_4 = some (r1, r2)) ∧ qaa (kq ≤ k2) ∧ qaa (wc.heap[qcI]? = some (.cells #[(.slice A0_0 l0_0.length c0_0), (.slice A0_1 l0_1.length c0_1), (.slice A0_2 l0_2.length c0_2), .int .i64 a0_3, .int .i64 a0_4] 39 (0, 0))) ∧ qaa (wc.heap[qbE]? = some (.cells #[(.slice A0_0 l0_0.length c0_0), (.slice A0_1 l0_1.length c0_1), (.slice A0_2 l0_2.length c0_2), .int .i64 a0_3, .int .i64 a0_4] 111 (0, 0))) ∧ qaa (Below w.heap.size w wc))
   case first =>
    have H := HC23.out; clear HC23
    by_cases c24 : x9_2 = true
    ·
     subst c24
     have H1 : (qaY.j2 k2 l1 l2 true qcA (decide (qcA < (l1.length : Int))) l0_0 l0_1 l0_2 a0_3 a0_4) = some (r1, r2) := by rw [if_pos rfl] at H; exact H
     clear H; have H := H1; clear H1; have H' := qaa.mk H; clear H
     go_wp2
     go_meet
     case rel => exact ⟨_, (decide (qcA < (l1.length : Int))), (by first | rfl | (simp; done) | (simp [*]; done)), H', ⟨by have := HJ3.out; have := HK2.out; first | omega | exact Nat.le_refl _⟩, ⟨by (with_reducible repeat (first | refine qac ?_ _ | refine qae ?_ | refine qab ?_ _)); exact qbw.out⟩, ⟨by (with_reducible repeat (first | refine qac ?_ _ | refine qae ?_ | refine qab ?_ _)); exact qaX.out⟩, ⟨by repeat (first | (with_reducible first | exact HB.out | apply qag | apply qad | apply qah | refine qaf ?_ qcF.out | refine qaf ?_ qcQ.out) | exact HB.out)⟩⟩
    replace c24 := Bool.eq_false_iff.mpr c24; subst c24
    have H1 : (qaY.j2 k2 l1 l2 false qcA false l0_0 l0_1 l0_2 a0_3 a0_4) = some (r1, r2) := by rw [if_neg (show ¬ (false = true) by decide)] at H; exact H
    clear H; have H := H1; clear H1; have H' := qaa.mk H; clear H
    go_wp2
    go_meet
    case rel => exact ⟨_, (false), (by first | rfl | (simp; done) | (simp [*]; done)), H', ⟨by have := HJ3.out; have := HK2.out; first | omega | exact Nat.le_refl _⟩, ⟨by (with_reducible repeat (first | refine qac ?_ _ | refine qae ?_ | refine qab ?_ _)); exact qbw.out⟩, ⟨by (with_reducible repeat (first | refine qac ?_ _ | refine qae ?_ | refine qab ?_ _)); exact qaX.out⟩, ⟨by repeat (first | (with_reducible first | exact HB.out | apply qag | apply qad | apply qah | refine qaf ?_ qcF.out | refine qaf ?_ qcQ.out) | exact HB.out)⟩⟩
   clear HC23
   try clear c1
   try clear c2
   try clear p2
   try clear c7
   try clear c8
   try clear c11
   try clear c13
   try clear c14
   try clear c17
   try clear c20
   try clear c24
   try clear qgq
   try clear qgr
   try clear qgW
   try clear qgX
   try clear qgY
   try clear qgZ
   try clear qg0
   try clear qg1
   try clear qkD
   try clear qkE
   try clear qer
   try clear qes
   try clear qgs
   try clear qkF
   try clear qkG
   try clear qiN
   try clear qiO
   try clear qjn
   try clear qlF
   try clear qlG
   try clear qdR
   try clear qdS
   try clear qe1
   try clear qlH
   try clear qlI
   try clear qgt
   try clear qgu
   try clear qg6
   try clear qg7
   try clear qg8
   try clear qg9
   try clear qha
   try clear qhb
   try clear qkO
   try clear qkP
   try clear qev
   try clear qew
   try clear qgv
   try clear qkQ
   try clear qkR
   try clear qiP
   try clear qiQ
   try clear qjz
   try clear qlJ
   try clear qlK
   try clear qdT
   try clear qdU
   try clear qe3
   try clear qlL
   try clear qlM
   try clear p2
   obtain ⟨kq, qmk, rfl, HA, HJ22, qbw, qaX, HB⟩ := hcut
   cases kq with
   | zero => exact absurd HA.out (by simp [qaY.j2])
   | succ kj22 =>
    have H := HA.out; clear HA; simp only [qaY.j2] at H
    by_cases c25 : qmk = true
    ·
     subst c25
     have H1 : (if 0 ≤ qcA then (if qcA < (l1.length : Int) then ((qaD.f (rd l1 qcA) 0 100000000).bind fun t159 => (if t159 = true then (if qcA < (l2.length : Int) then ((qaD.f (rd l2 qcA) 0 100000).bind fun t161 => (qaY.l0 kj22 l1 l2 t161 (wrap64 (qcA + 1)) l0_0 l0_1 l0_2 a0_3 a0_4)) else (none)) else (qaY.l0 kj22 l1 l2 false (wrap64 (qcA + 1)) l0_0 l0_1 l0_2 a0_3 a0_4))) else (none)) else (none)) = some (r1, r2) := by rw [if_pos rfl] at H; exact H
     clear H; have H := H1; clear H1
     by_cases c26 : 0 ≤ qcA
     ·
      rw [if_pos c26] at H; have c26b0 : decide (0 ≤ qcA) = true := decide_eq_true c26; clear c26
      by_cases c27 : qcA < (l1.length : Int)
      ·
       rw [if_pos c27] at H; have c27b0 : decide (qcA < (l1.length : Int)) = true := decide_eq_true c27; clear c27; replace H := Option.bind_eq_some_iff.mp H; obtain ⟨t159, A280, H⟩ := H; replace H : (if t159 = true then (if qcA < (l2.length : Int) then ((qaD.f (rd l2 qcA) 0 100000).bind fun t161 => (qaY.l0 kj22 l1 l2 t161 (wrap64 (qcA + 1)) l0_0 l0_1 l0_2 a0_3 a0_4)) else (none)) else (qaY.l0 kj22 l1 l2 false (wrap64 (qcA + 1)) l0_0 l0_1 l0_2 a0_3 a0_4)) = some (r1, r2) := H; have A28 := qaa.mk A280; clear A280
       by_cases c29 : t159 = true
       ·
        subst c29
        have H1 : (if qcA < (l2.length : Int) then ((qaD.f (rd l2 qcA) 0 100000).bind fun t161 => (qaY.l0 kj22 l1 l2 t161 (wrap64 (qcA + 1)) l0_0 l0_1 l0_2 a0_3 a0_4)) else (none)) = some (r1, r2) := by rw [if_pos rfl] at H; exact H
        clear H; have H := H1; clear H1
        by_cases c30 : qcA < (l2.length : Int)
        ·
         rw [if_pos c30] at H; have c30b0 : decide (qcA < (l2.length : Int)) = true := decide_eq_true c30; clear c30; replace H := Option.bind_eq_some_iff.mp H; obtain ⟨t161, A310, H⟩ := H; replace H : (qaY.l0 kj22 l1 l2 t161 (wrap64 (qcA + 1)) l0_0 l0_1 l0_2 a0_3 a0_4) = some (r1, r2) := H; have A31 := qaa.mk A310; clear A310; have H' := qaa.mk H; clear H; have p158 : 0 ≤ (qcA : Int) := of_decide_eq_true (by first | (with_reducible assumption) | assumption); have q158 : qcA < (l1.length : Int) := of_decide_eq_true (by first | (with_reducible assumption) | assumption); obtain ⟨quk, e158, qho⟩ := Kd.at_int HR1.out qcA p158 q158; cases e158; replace qho := (HB.out.cell (World.block_lt_of_cell? w _ qho)).trans qho; replace p158 := eq_true p158; replace q158 := eq_true q158
         go_wp2_with (first | ((with_reducible refine qaT (f := 65) rfl ?_); refine qbs (some 46) rfl rfl Try.func65 (by kernel_rfl) rfl #[.int .i64 (rd l1 qcA), .int .i64 0, .int .i64 100000000] rfl (by (try simp only [List.map_toArray, List.map_cons, List.map_nil]); first | done | rfl | (simp only [List.length_drop, List.length_take]; rfl)) ?_; (with_reducible refine (qaD.calls (rd l1 qcA) 0 100000000 true _ A28.out).mono ?_); rintro e w' ⟨rfl, ⟨nd, rfl⟩⟩; refine ⟨_, rfl, ?_⟩; have p160 : 0 ≤ (qcA : Int) := of_decide_eq_true (by first | (with_reducible assumption) | assumption); have q160 : qcA < (l2.length : Int) := of_decide_eq_true (by first | (with_reducible assumption) | assumption); obtain ⟨qCK, e160, qk3⟩ := Kd.at_int HR2.out qcA p160 q160; cases e160; replace qk3 := (HB.out.cell (World.block_lt_of_cell? w _ qk3)).trans qk3; replace p160 := eq_true p160; replace q160 := eq_true q160) | (go_at_call 65; (with_reducible refine (qaD.calls (rd l2 qcA) 0 100000 t161 _ A31.out).mono ?_); rintro e w' ⟨rfl, ⟨nd, rfl⟩⟩))
         go_roundg kj22
         case measure => have := HJ3.out; have := HK2.out; have := HJ22.out; omega
         case rel => exact ⟨(t161), (wrap64 (qcA + 1)), (by first | rfl | (simp; done) | (simp [*]; done)), (by first | rfl | (simp; done) | (simp [*]; done)), H', ⟨by have := HJ3.out; have := HK2.out; have := HJ22.out; omega⟩, ⟨by (with_reducible repeat (first | refine qac ?_ _ | refine qae ?_ | refine qab ?_ _)); exact qbw.out⟩, ⟨by (with_reducible repeat (first | refine qac ?_ _ | refine qae ?_ | refine qab ?_ _)); exact qaX.out⟩, ⟨by repeat (first | (with_reducible first | exact HB.out | apply qag | apply qad | apply qah | refine qaf ?_ qcF.out | refine qaf ?_ qcQ.out) | exact HB.out)⟩⟩
        rw [if_neg c30] at H
        exact absurd H (by simp)
       replace c29 := Bool.eq_false_iff.mpr c29; subst c29
       have H1 : (qaY.l0 kj22 l1 l2 false (wrap64 (qcA + 1)) l0_0 l0_1 l0_2 a0_3 a0_4) = some (r1, r2) := by rw [if_neg (show ¬ (false = true) by decide)] at H; exact H
       clear H; have H := H1; clear H1; have H' := qaa.mk H; clear H; have p158 : 0 ≤ (qcA : Int) := of_decide_eq_true (by first | (with_reducible assumption) | assumption); have q158 : qcA < (l1.length : Int) := of_decide_eq_true (by first | (with_reducible assumption) | assumption); obtain ⟨quk, e158, qho⟩ := Kd.at_int HR1.out qcA p158 q158; cases e158; replace qho := (HB.out.cell (World.block_lt_of_cell? w _ qho)).trans qho; replace p158 := eq_true p158; replace q158 := eq_true q158
       go_wp2_with (first | ((with_reducible refine qaT (f := 65) rfl ?_); refine qbs (some 46) rfl rfl Try.func65 (by kernel_rfl) rfl #[.int .i64 (rd l1 qcA), .int .i64 0, .int .i64 100000000] rfl (by (try simp only [List.map_toArray, List.map_cons, List.map_nil]); first | done | rfl | (simp only [List.length_drop, List.length_take]; rfl)) ?_; (with_reducible refine (qaD.calls (rd l1 qcA) 0 100000000 false _ A28.out).mono ?_); rintro e w' ⟨rfl, ⟨nd, rfl⟩⟩; refine ⟨_, rfl, ?_⟩))
       go_roundg kj22
       case measure => have := HJ3.out; have := HK2.out; have := HJ22.out; omega
       case rel => exact ⟨(false), (wrap64 (qcA + 1)), (by first | rfl | (simp; done) | (simp [*]; done)), (by first | rfl | (simp; done) | (simp [*]; done)), H', ⟨by have := HJ3.out; have := HK2.out; have := HJ22.out; omega⟩, ⟨by (with_reducible repeat (first | refine qac ?_ _ | refine qae ?_ | refine qab ?_ _)); exact qbw.out⟩, ⟨by (with_reducible repeat (first | refine qac ?_ _ | refine qae ?_ | refine qab ?_ _)); exact qaX.out⟩, ⟨by repeat (first | (with_reducible first | exact HB.out | apply qag | apply qad | apply qah | refine qaf ?_ qcF.out | refine qaf ?_ qcQ.out) | exact HB.out)⟩⟩
      rw [if_neg c27] at H
      exact absurd H (by simp)
     rw [if_neg c26] at H
     exact absurd H (by simp)
    replace c25 := Bool.eq_false_iff.mpr c25; subst c25
    have H1 : (if x9_2 = true then ((qcK.f l0_0 l0_1 l0_2 a0_3 a0_4).bind fun qeG => (qaY.l1 kj22 l1 l2 ([] : List Int) (l1.length : Int) 0 l0_0 l0_1 l0_2 a0_3 a0_4 qeG.1 qeG.2.1 qeG.2.2.1 qeG.2.2.2.1 qeG.2.2.2.2.1 qeG.2.2.2.2.2)) else (some (([] : List Int), 92))) = some (r1, r2) := by rw [if_neg (show ¬ (false = true) by decide)] at H; exact H
    clear H; have H := H1; clear H1
    by_cases c32 : x9_2 = true
    ·
     subst c32
     have H1 : ((qcK.f l0_0 l0_1 l0_2 a0_3 a0_4).bind fun qeG => (qaY.l1 kj22 l1 l2 ([] : List Int) (l1.length : Int) 0 l0_0 l0_1 l0_2 a0_3 a0_4 qeG.1 qeG.2.1 qeG.2.2.1 qeG.2.2.2.1 qeG.2.2.2.2.1 qeG.2.2.2.2.2)) = some (r1, r2) := by rw [if_pos rfl] at H; exact H
     clear H; have H := H1; clear H1; replace H := Option.bind_eq_some_iff.mp H; obtain ⟨⟨t162, t163, t164, t165, t166, t167⟩, A330, H⟩ := H; replace H : (qaY.l1 kj22 l1 l2 ([] : List Int) (l1.length : Int) 0 l0_0 l0_1 l0_2 a0_3 a0_4 t162 t163 t164 t165 t166 t167) = some (r1, r2) := H; have A33 := qaa.mk A330; clear A330; have H' := qaa.mk H; clear H; have qDk := qia.out; have qDY := qdb.out; have qr7 : wc.cell? ⟨qbE, 0, none⟩ = some (.slice A0_0 l0_0.length c0_0) := (qai qaX.out 0).trans rfl; have qr8 : wc.cell? ⟨qbE, 1, none⟩ = some (.slice A0_1 l0_1.length c0_1) := (qai qaX.out 1).trans rfl; have qr9 : wc.cell? ⟨qbE, 2, none⟩ = some (.slice A0_2 l0_2.length c0_2) := (qai qaX.out 2).trans rfl; have qsa : wc.cell? ⟨qbE, 3, none⟩ = some (.int .i64 a0_3) := (qai qaX.out 3).trans rfl; have qsb : wc.cell? ⟨qbE, 4, none⟩ = some (.int .i64 a0_4) := (qai qaX.out 4).trans rfl; have qsJ := qaj qaX.out 0; have qsK := qaj qaX.out 1; have qsL := qaj qaX.out 2; have qsM := qaj qaX.out 3; have qsN := qaj qaX.out 4
     go_wp2_with (first | ((with_reducible refine qaT (f := 78) rfl ?_); refine qbs (some 57) rfl rfl Try.func78 (by kernel_rfl) rfl #[.agg #[.slice A0_0 l0_0.length c0_0, .slice A0_1 l0_1.length c0_1, .slice A0_2 l0_2.length c0_2, .int .i64 a0_3, .int .i64 a0_4]] rfl (by (try simp only [List.map_toArray, List.map_cons, List.map_nil]); first | done | rfl | (simp only [List.length_drop, List.length_take]; rfl)) ?_; (with_reducible refine (qcK.calls _ _ l0_0 _ _ l0_1 _ _ l0_2 a0_3 a0_4 t162 t163 t164 t165 t166 t167 _ ?side1 ?side2 ?side3 ?side4 ?side5 ?side6 A33.out).mono ?_); (case side1 => repeat (first | exact (Kd.C_below qdr.out HB.out) | (with_reducible refine Kd.C_alloc ?_ _) | (with_reducible refine Kd.C_drewN ?_ _) | (with_reducible refine Kd.C_drew ?_))); (case side2 => exact qdH.out); (case side3 => repeat (first | exact (Kd.C_below qdu.out HB.out) | (with_reducible refine Kd.C_alloc ?_ _) | (with_reducible refine Kd.C_drewN ?_ _) | (with_reducible refine Kd.C_drew ?_))); (case side4 => exact qdI.out); (case side5 => repeat (first | exact (Kd.C_below qdv.out HB.out) | (with_reducible refine Kd.C_alloc ?_ _) | (with_reducible refine Kd.C_drewN ?_ _) | (with_reducible refine Kd.C_drew ?_))); (case side6 => exact qdJ.out); rintro e w36 ⟨rfl, hb⟩; refine ⟨_, rfl, ?_⟩; have n0_ := qaa.mk (qar (g := qcI) (o := .cells #[.slice A0_0 l0_0.length c0_0, .slice A0_1 l0_1.length c0_1, .slice A0_2 l0_2.length c0_2, .int .i64 a0_3, .int .i64 a0_4] 39 (0, 0)) (by (with_reducible repeat (first | refine qac ?_ _ | refine qae ?_ | refine qab ?_ _)); exact qbw.out) hb); have n1_ := qaa.mk (qar (g := qbE) (o := .cells #[.slice A0_0 l0_0.length c0_0, .slice A0_1 l0_1.length c0_1, .slice A0_2 l0_2.length c0_2, .int .i64 a0_3, .int .i64 a0_4] 111 (0, 0)) (by (with_reducible repeat (first | refine qac ?_ _ | refine qae ?_ | refine qab ?_ _)); exact qaX.out) hb); have n2_ := qaa.mk (qaA (by repeat (first | (with_reducible first | exact HB.out | apply qag | apply qad | apply qah | refine qaf ?_ qcF.out | refine qaf ?_ qcQ.out) | exact HB.out)) hb); clear qbw; clear qaX; clear HB; have qbw := n0_; have qaX := n1_; have HB := n2_; clear n0_ n1_ n2_; (try clear hb); (try clear hb2); (try clear hk); (try clear hi)) | ((with_reducible refine qa1 (N := 12) rfl ?_); (try (refine qdF (by rfl) ?_; dsimp only)); refine qbq ?hg (N := 12) ?hd (cs := #[.int .i64 0, .int .i64 0, .int .i64 0, .int .i64 0, .int .i64 0, .int .i64 0]) (t := 115) ?hr ?_; (case hd => rfl); (case hg => rfl); (case hr => first | (go_simp; done) | (go_simp; rfl)); intro qbj hg w37 hbox hb; have n0_ := qaa.mk (qar (g := qcI) (o := .cells #[.slice A0_0 l0_0.length c0_0, .slice A0_1 l0_1.length c0_1, .slice A0_2 l0_2.length c0_2, .int .i64 a0_3, .int .i64 a0_4] 39 (0, 0)) (by (with_reducible repeat (first | refine qac ?_ _ | refine qae ?_ | refine qab ?_ _)); exact qbw.out) hb); have n1_ := qaa.mk (qar (g := qbE) (o := .cells #[.slice A0_0 l0_0.length c0_0, .slice A0_1 l0_1.length c0_1, .slice A0_2 l0_2.length c0_2, .int .i64 a0_3, .int .i64 a0_4] 111 (0, 0)) (by (with_reducible repeat (first | refine qac ?_ _ | refine qae ?_ | refine qab ?_ _)); exact qaX.out) hb); have n2_ := qaa.mk (qaA (by repeat (first | (with_reducible first | exact HB.out | apply qag | apply qad | apply qah | refine qaf ?_ qcF.out | refine qaf ?_ qcQ.out) | exact HB.out)) hb); have n3_ := qaa.mk (hbox); have n4_ := qaa.mk ((by rw [hg]; exact (qav (by repeat (first | (with_reducible first | exact HB.out | apply qag | apply qad | apply qah | refine qaf ?_ qcF.out | refine qaf ?_ qcQ.out) | exact HB.out))) : w.heap.size ≤ qbj)); have n5_ := qaa.mk ((by rw [hg]; exact (qav (by repeat (first | (with_reducible first | exact HB.out | apply qag | apply qad | apply qah | refine qaf ?_ qcF.out | refine qaf ?_ qcQ.out) | exact HB.out))) : w.heap.size ≤ qbj)); have n6_ := qaa.mk ((by rw [hg]; exact Nat.ne_of_lt (qaN (g := qcI) (o := .cells #[.slice A0_0 l0_0.length c0_0, .slice A0_1 l0_1.length c0_1, .slice A0_2 l0_2.length c0_2, .int .i64 a0_3, .int .i64 a0_4] 39 (0, 0)) (by (with_reducible repeat (first | refine qac ?_ _ | refine qae ?_ | refine qab ?_ _)); exact qbw.out)) : qcI ≠ qbj)); have n7_ := qaa.mk ((by rw [hg]; exact Nat.ne_of_gt (qaN (g := qcI) (o := .cells #[.slice A0_0 l0_0.length c0_0, .slice A0_1 l0_1.length c0_1, .slice A0_2 l0_2.length c0_2, .int .i64 a0_3, .int .i64 a0_4] 39 (0, 0)) (by (with_reducible repeat (first | refine qac ?_ _ | refine qae ?_ | refine qab ?_ _)); exact qbw.out)) : qbj ≠ qcI)); have n8_ := qaa.mk ((by rw [hg]; exact Nat.ne_of_lt (qaN (g := qbE) (o := .cells #[.slice A0_0 l0_0.length c0_0, .slice A0_1 l0_1.length c0_1, .slice A0_2 l0_2.length c0_2, .int .i64 a0_3, .int .i64 a0_4] 111 (0, 0)) (by (with_reducible repeat (first | refine qac ?_ _ | refine qae ?_ | refine qab ?_ _)); exact qaX.out)) : qbE ≠ qbj)); have n9_ := qaa.mk ((by rw [hg]; exact Nat.ne_of_gt (qaN (g := qbE) (o := .cells #[.slice A0_0 l0_0.length c0_0, .slice A0_1 l0_1.length c0_1, .slice A0_2 l0_2.length c0_2, .int .i64 a0_3, .int .i64 a0_4] 111 (0, 0)) (by (with_reducible repeat (first | refine qac ?_ _ | refine qae ?_ | refine qab ?_ _)); exact qaX.out)) : qbj ≠ qbE)); clear qbw; clear qaX; clear HB; have qbw := n0_; have qaX := n1_; have HB := n2_; have qbo := n3_; have qCv := n4_; have qfn := n5_; have qdh := n6_; have qf6 := n7_; have qdi := n8_; have qf7 := n9_; clear n0_ n1_ n2_ n3_ n4_ n5_ n6_ n7_ n8_ n9_; clear hb hbox hg; have qDm := qf6.out; have qD0 := qdh.out; have qrv := qf7.out; have qrx := qdi.out; have qkH : w37.cell? ⟨qbj, 0, none⟩ = some (.int .i64 0) := (qai qbo.out 0).trans rfl; have qkI : w37.cell? ⟨qbj, 1, none⟩ = some (.int .i64 0) := (qai qbo.out 1).trans rfl; have qkJ : w37.cell? ⟨qbj, 2, none⟩ = some (.int .i64 0) := (qai qbo.out 2).trans rfl; have qsi : w37.cell? ⟨qbj, 3, none⟩ = some (.int .i64 0) := (qai qbo.out 3).trans rfl; have qsj : w37.cell? ⟨qbj, 4, none⟩ = some (.int .i64 0) := (qai qbo.out 4).trans rfl; have qsk : w37.cell? ⟨qbj, 5, none⟩ = some (.int .i64 0) := (qai qbo.out 5).trans rfl; have qkS := qaj qbo.out 0; have qkT := qaj qbo.out 1; have qkU := qaj qbo.out 2; have qsU := qaj qbo.out 3; have qsV := qaj qbo.out 4; have qsW := qaj qbo.out 5))
     go_loopg [13, 60] kj22 (fun kq v13 v60 w' => ∃ (qd6 : List Int) (qcW : Int) (qcJ : Int) (qcC : Int) (qcw : Int) (qco : Int) (qcm : Int) (qcf : Int), v60 = .int .i64 qcW ∧ qaa (qaY.l1 kq l1 l2 qd6 (l1.length : Int) qcW l0_0 l0_1 l0_2 a0_3 a0_4 qcJ qcC qcw qco qcm qcf = some (r1, r2)) ∧ qaa (kq ≤ kj22) ∧ qaa (Kd.R (Kd.int .i64) 3 w' w.heap.size (fun k_ => (w.heap.size ≤ k_)) v13 qd6) ∧ qaa (w'.heap[qcI]? = some (.cells #[(.slice A0_0 l0_0.length c0_0), (.slice A0_1 l0_1.length c0_1), (.slice A0_2 l0_2.length c0_2), .int .i64 a0_3, .int .i64 a0_4] 39 (0, 0))) ∧ qaa (w'.heap[qbE]? = some (.cells #[(.slice A0_0 l0_0.length c0_0), (.slice A0_1 l0_1.length c0_1), (.slice A0_2 l0_2.length c0_2), .int .i64 a0_3, .int .i64 a0_4] 111 (0, 0))) ∧ qaa (w'.heap[qbj]? = some (.cells #[.int .i64 qcJ, .int .i64 qcC, .int .i64 qcw, .int .i64 qco, .int .i64 qcm, .int .i64 qcf] 115 (0, 0))) ∧ qaa (Below w.heap.size w w'))
     case atStart => exact ⟨(([] : List Int)), (0), (t162), (t163), (t164), (t165), (t166), (t167), (by first | rfl | (simp; done) | (simp [*]; done)), H', ⟨Nat.le_refl _⟩, ⟨by first | exact Kd.R_nil _ _ _ _ _ | exact Kd.N_nil _ _ _ _ _ | exact Kd.V_nil _ _ _ _ _ | exact Kd.Q_nil _ _ _ _ _ | exact Kd.S_nil _ _ _ _ _⟩, ⟨by (with_reducible repeat (first | refine qac ?_ _ | refine qae ?_ | refine qab ?_ _)); refine qau ?_ qdh.out _; (with_reducible repeat (first | refine qac ?_ _ | refine qae ?_ | refine qab ?_ _)); refine qau ?_ qdh.out _; (with_reducible repeat (first | refine qac ?_ _ | refine qae ?_ | refine qab ?_ _)); refine qau ?_ qdh.out _; (with_reducible repeat (first | refine qac ?_ _ | refine qae ?_ | refine qab ?_ _)); refine qau ?_ qdh.out _; (with_reducible repeat (first | refine qac ?_ _ | refine qae ?_ | refine qab ?_ _)); refine qau ?_ qdh.out _; (with_reducible repeat (first | refine qac ?_ _ | refine qae ?_ | refine qab ?_ _)); refine qau ?_ qdh.out _; (with_reducible repeat (first | refine qac ?_ _ | refine qae ?_ | refine qab ?_ _)); exact qbw.out⟩, ⟨by (with_reducible repeat (first | refine qac ?_ _ | refine qae ?_ | refine qab ?_ _)); refine qau ?_ qdi.out _; (with_reducible repeat (first | refine qac ?_ _ | refine qae ?_ | refine qab ?_ _)); refine qau ?_ qdi.out _; (with_reducible repeat (first | refine qac ?_ _ | refine qae ?_ | refine qab ?_ _)); refine qau ?_ qdi.out _; (with_reducible repeat (first | refine qac ?_ _ | refine qae ?_ | refine qab ?_ _)); refine qau ?_ qdi.out _; (with_reducible repeat (first | refine qac ?_ _ | refine qae ?_ | refine qab ?_ _)); refine qau ?_ qdi.out _; (with_reducible repeat (first | refine qac ?_ _ | refine qae ?_ | refine qab ?_ _)); refine qau ?_ qdi.out _; (with_reducible repeat (first | refine qac ?_ _ | refine qae ?_ | refine qab ?_ _)); exact qaX.out⟩, ⟨by (with_reducible repeat (first | refine qac ?_ _ | refine qae ?_ | refine qab ?_ _)); refine qaH (cs := #[.int .i64 t162, .int .i64 t163, .int .i64 t164, .int .i64 t165, .int .i64 t166, .int .i64 0]) ?_ 5 _ rfl; (with_reducible repeat (first | refine qac ?_ _ | refine qae ?_ | refine qab ?_ _)); refine qaH (cs := #[.int .i64 t162, .int .i64 t163, .int .i64 t164, .int .i64 t165, .int .i64 0, .int .i64 0]) ?_ 4 _ rfl; (with_reducible repeat (first | refine qac ?_ _ | refine qae ?_ | refine qab ?_ _)); refine qaH (cs := #[.int .i64 t162, .int .i64 t163, .int .i64 t164, .int .i64 0, .int .i64 0, .int .i64 0]) ?_ 3 _ rfl; (with_reducible repeat (first | refine qac ?_ _ | refine qae ?_ | refine qab ?_ _)); refine qaH (cs := #[.int .i64 t162, .int .i64 t163, .int .i64 0, .int .i64 0, .int .i64 0, .int .i64 0]) ?_ 2 _ rfl; (with_reducible repeat (first | refine qac ?_ _ | refine qae ?_ | refine qab ?_ _)); refine qaH (cs := #[.int .i64 t162, .int .i64 0, .int .i64 0, .int .i64 0, .int .i64 0, .int .i64 0]) ?_ 1 _ rfl; (with_reducible repeat (first | refine qac ?_ _ | refine qae ?_ | refine qab ?_ _)); refine qaH (cs := #[.int .i64 0, .int .i64 0, .int .i64 0, .int .i64 0, .int .i64 0, .int .i64 0]) ?_ 0 _ rfl; (with_reducible repeat (first | refine qac ?_ _ | refine qae ?_ | refine qab ?_ _)); exact qbo.out⟩, ⟨by repeat (first | (with_reducible first | exact HB.out | apply qag | apply qad | apply qah | refine qaf ?_ qcF.out | refine qaf ?_ qcQ.out | refine qaf ?_ qfn.out) | exact HB.out)⟩⟩
     clear H'; (try clear c1); (try clear p1); (try clear q1); (try clear hx1); (try clear c2); (try clear p2); (try clear c3); (try clear c6); (try clear p6); (try clear c7); (try clear c8); (try clear c11); (try clear c13); (try clear c14); (try clear p15); (try clear q15); (try clear hx15); (try clear p16); (try clear q16); (try clear hx16); (try clear c17); (try clear c20); (try clear c24); (try clear c25); (try clear c26); (try clear c26b0); (try clear c27); (try clear c27b0); (try clear c29); (try clear c30); (try clear c30b0); (try clear c32); (try clear c34); (try clear c38); (try clear c39); (try clear qgq); (try clear qgr); (try clear qgW); (try clear qgX); (try clear qgY); (try clear qgZ); (try clear qg0); (try clear qg1); (try clear qkD); (try clear qkE); (try clear qer); (try clear qes); (try clear qgs); (try clear qkF); (try clear qkG); (try clear qr7); (try clear qr8); (try clear qr9); (try clear qsa); (try clear qsb); (try clear qkH); (try clear qkI); (try clear qkJ); (try clear qsi); (try clear qsj); (try clear qsk); (try clear qiN); (try clear qiO); (try clear qjn); (try clear qlF); (try clear qlG); (try clear qdR); (try clear qdS); (try clear qe1); (try clear qlH); (try clear qlI); (try clear qgt); (try clear qgu); (try clear qg6); (try clear qg7); (try clear qg8); (try clear qg9); (try clear qha); (try clear qhb); (try clear qkO); (try clear qkP); (try clear qev); (try clear qew); (try clear qgv); (try clear qkQ); (try clear qkR); (try clear qsJ); (try clear qsK); (try clear qsL); (try clear qsM); (try clear qsN); (try clear qkS); (try clear qkT); (try clear qkU); (try clear qsU); (try clear qsV); (try clear qsW); (try clear qiP); (try clear qiQ); (try clear qjz); (try clear qlJ); (try clear qlK); (try clear qdT); (try clear qdU); (try clear qe3); (try clear qlL); (try clear qlM); (try clear qho); (try clear qk3); (try clear p158); (try clear p160); (try clear p2); (try clear q158); (try clear q160); obtain ⟨qd6, qcW, qcJ, qcC, qcw, qco, qcm, qcf, rfl, HA, HK4, HO_13, qbw, qaX, qbo, HB⟩ := hrel
     cases gk with
     | zero => exact absurd HA.out (by simp [qaY.l1])
     | succ k4 =>
      have H := HA.out; clear HA; simp only [qaY.l1] at H
      by_cases c41 : qcW < (l1.length : Int)
      ·
       rw [if_pos c41] at H; have c41b0 : decide (qcW < (l1.length : Int)) = true := decide_eq_true c41; clear c41
       by_cases c42 : 0 ≤ qcW
       ·
        rw [if_pos c42] at H; have c42b0 : decide (0 ≤ qcW) = true := decide_eq_true c42; clear c42
        by_cases c43 : qcW < (l1.length : Int)
        ·
         rw [if_pos c43] at H; have c43b0 : decide (qcW < (l1.length : Int)) = true := decide_eq_true c43; clear c43
         by_cases c44 : qcW < (l2.length : Int)
         ·
          rw [if_pos c44] at H; have c44b0 : decide (qcW < (l2.length : Int)) = true := decide_eq_true c44; clear c44; replace H := Option.bind_eq_some_iff.mp H; obtain ⟨⟨t171, t172, t173, t174, t175, t176, t177⟩, A450, H⟩ := H; replace H : (if qd6.length < 17592186044416 then (qaY.l1 k4 l1 l2 (qd6 ++ [t171]) (l1.length : Int) (wrap64 (qcW + 1)) l0_0 l0_1 l0_2 a0_3 a0_4 t172 t173 t174 t175 t176 t177) else (none)) = some (r1, r2) := H; have A45 := qaa.mk A450; clear A450
          by_cases c46 : qd6.length < 17592186044416
          ·
           rw [if_pos c46] at H; have qub := qaa.mk c46; clear c46; obtain ⟨y179, qlN⟩ : ∃ y_ : List Int, y_ = (qd6 ++ [t171]) := ⟨_, rfl⟩
           replace H : (qaY.l1 k4 l1 l2 y179 (l1.length : Int) (wrap64 (qcW + 1)) l0_0 l0_1 l0_2 a0_3 a0_4 t172 t173 t174 t175 t176 t177) = some (r1, r2) := by first | (rw [qlN]; with_reducible exact H) | (have H2_ := (Option.bind_some _ _).symm.trans H; rw [qlN]; with_reducible exact H2_) | (have H2_ := (Option.bind_some _ _).symm.trans H; with_reducible exact H2_) | with_reducible exact H | (rw [qlN]; exact H) | exact H
           have quc := qaa.mk qlN; clear qlN; have H' := qaa.mk H; clear H
           try go_wp2
           have n0_ := qaa.mk (Kd.R_drew HO_13.out); have n1_ := qaa.mk (qae qbw.out); have n2_ := qaa.mk (qae qaX.out); have n3_ := qaa.mk (qae qbo.out); have n4_ := qaa.mk (qah HB.out); clear HO_13 qbw qaX qbo HB; have HO_13 := n0_; have qbw := n1_; have qaX := n2_; have qbo := n3_; have HB := n4_; clear n0_ n1_ n2_ n3_ n4_; have p169 : 0 ≤ (qcW : Int) := of_decide_eq_true (by first | (with_reducible assumption) | assumption); have q169 : qcW < (l1.length : Int) := of_decide_eq_true (by first | (with_reducible assumption) | assumption); obtain ⟨qpp, e169, qjI⟩ := Kd.at_int HR1.out qcW p169 q169; have qcs := qjI; cases e169; replace qjI := (HB.out.cell (World.block_lt_of_cell? w _ qjI)).trans qjI; replace p169 := eq_true p169; replace q169 := eq_true q169; have p170 : 0 ≤ (qcW : Int) := of_decide_eq_true (by first | (with_reducible assumption) | assumption); have q170 : qcW < (l2.length : Int) := of_decide_eq_true (by first | (with_reducible assumption) | assumption); obtain ⟨qpq, e170, qjJ⟩ := Kd.at_int HR2.out qcW p170 q170; have qct := qjJ; cases e170; replace qjJ := (HB.out.cell (World.block_lt_of_cell? w _ qjJ)).trans qjJ; replace p170 := eq_true p170; replace q170 := eq_true q170; refine qfM (n := 18) (S := fun w' => w'.cell? ⟨qbE, 0, none⟩ = some (.slice A0_0 l0_0.length c0_0) ∧ w'.cell? ⟨qbE, 1, none⟩ = some (.slice A0_1 l0_1.length c0_1) ∧ w'.cell? ⟨qbE, 2, none⟩ = some (.slice A0_2 l0_2.length c0_2) ∧ w'.cell? ⟨qbE, 3, none⟩ = some (.int .i64 a0_3) ∧ w'.cell? ⟨qbE, 4, none⟩ = some (.int .i64 a0_4) ∧ w'.cell? ⟨qbj, 0, none⟩ = some (.int .i64 qcJ) ∧ w'.cell? ⟨qbj, 1, none⟩ = some (.int .i64 qcC) ∧ w'.cell? ⟨qbj, 2, none⟩ = some (.int .i64 qcw) ∧ w'.cell? ⟨qbj, 3, none⟩ = some (.int .i64 qco) ∧ w'.cell? ⟨qbj, 4, none⟩ = some (.int .i64 qcm) ∧ w'.cell? ⟨qbj, 5, none⟩ = some (.int .i64 qcf) ∧ w'.cell? (qpp.add (qcW).toNat) = some (.int .i64 (rd l1 qcW)) ∧ w'.cell? (qpq.add (qcW).toNat) = some (.int .i64 (rd l2 qcW))) (ds := []) (qas 18 0) (by kernel_rfl) rfl rfl ⟨(qai qaX.out 0).trans rfl, (qai qaX.out 1).trans rfl, (qai qaX.out 2).trans rfl, (qai qaX.out 3).trans rfl, (qai qaX.out 4).trans rfl, (qai qbo.out 0).trans rfl, (qai qbo.out 1).trans rfl, (qai qbo.out 2).trans rfl, (qai qbo.out 3).trans rfl, (qai qbo.out 4).trans rfl, (qai qbo.out 5).trans rfl, ((HB.out.cell (World.block_lt_of_cell? w _ qcs)).trans qcs), ((HB.out.cell (World.block_lt_of_cell? w _ qct)).trans qct)⟩ (fun hHeld => ?_); refine qel qaY.tab15 qaY.bits15 (fun HT_ HW_ => ?_)
           generalize wr.drew = w47 at HO_13 qbw qaX qbo HB qjI qjJ hHeld ⊢
           refine qax 0 (some 64) (qas 18 1) rfl rfl HT_.out (by kernel_rfl) (fun _ _ _ h => h) ⟨.inl ⟨by rfl, fun w' => by go_simp; with_reducible rfl⟩, by simp only [qaq, qam, qap, qao, qan, qaB, qaC]; rfl, ?_⟩; refine qax 3 (some 67) (qas 18 9) rfl rfl HT_.out (by kernel_rfl) (fun _ _ _ h => h) ⟨.inl ⟨by rfl, fun w' => by go_simp; with_reducible rfl⟩, by simp only [qaq, qam, qap, qao, qan, qaB, qaC]; rfl, ?_⟩; refine qax 4 (some 68) (qas 18 25) rfl rfl HT_.out (by kernel_rfl) (fun _ _ _ h => h) ⟨.inl ⟨by rfl, fun w' => by go_simp; with_reducible rfl⟩, by simp only [qaq, qam, qap, qao, qan, qaB, qaC]; rfl, ?_⟩; refine qax 5 (some 69) (qas 18 57) rfl rfl HT_.out (by kernel_rfl) (fun _ _ _ h => h) ⟨.inl ⟨by rfl, fun w' => by go_simp; with_reducible rfl⟩, by simp only [qaq, qam, qap, qao, qan, qaB, qaC]; rfl, ?_⟩; refine qax 7 (some 71) (qas 18 185) rfl rfl HT_.out (by kernel_rfl) (fun _ _ _ h => h) ⟨.inl ⟨by rfl, fun w' => by go_simp; with_reducible rfl⟩, by simp only [qaq, qam, qap, qao, qan, qaB, qaC]; rfl, ?_⟩; refine qax 8 (some 72) (qas 18 441) rfl rfl HT_.out (by kernel_rfl) (fun _ _ _ h => h) ⟨.inl ⟨by rfl, fun w' => by go_simp; with_reducible rfl⟩, by simp only [qaq, qam, qap, qao, qan, qaB, qaC]; rfl, ?_⟩; refine qax 9 (some 73) (qas 18 953) rfl rfl HT_.out (by kernel_rfl) (fun _ _ _ h => h) ⟨.inl ⟨by rfl, fun w' => by go_simp; with_reducible rfl⟩, by simp only [qaq, qam, qap, qao, qan, qaB, qaC]; rfl, ?_⟩; refine qcD 1 (some 65) (qas 18 955) rfl rfl (qcE HT_.out HW_.out (by kernel_rfl)) (fun _ _ _ h => h) hHeld ⟨.inl ⟨by rfl, by rintro w' ⟨s0, s1, s2, s3, s4, s5, s6, s7, s8, s9, s10, s11, s12⟩; go_simp; with_reducible rfl⟩, by simp only [qaq, qam, qap, qao, qan, qaB, qaC]; rfl, ?_⟩; refine qcD 2 (some 66) (qas 18 959) rfl rfl (qcE HT_.out HW_.out (by kernel_rfl)) (fun _ _ _ h => h) hHeld ⟨.inl ⟨by rfl, by rintro w' ⟨s0, s1, s2, s3, s4, s5, s6, s7, s8, s9, s10, s11, s12⟩; go_simp; with_reducible rfl⟩, by simp only [qaq, qam, qap, qao, qan, qaB, qaC]; rfl, ?_⟩; refine qcD 6 (some 70) (qas 18 1023) rfl rfl (qcE HT_.out HW_.out (by kernel_rfl)) (fun _ _ _ h => h) hHeld ⟨.inl ⟨by rfl, by rintro w' ⟨s0, s1, s2, s3, s4, s5, s6, s7, s8, s9, s10, s11, s12⟩; go_simp; with_reducible rfl⟩, by simp only [qaq, qam, qap, qao, qan, qaB, qaC]; rfl, ?_⟩; refine qcD 10 (some 74) (qas 18 2047) rfl rfl (qcE HT_.out HW_.out (by kernel_rfl)) (fun _ _ _ h => h) hHeld ⟨.inl ⟨by rfl, by rintro w' ⟨s0, s1, s2, s3, s4, s5, s6, s7, s8, s9, s10, s11, s12⟩; go_simp; with_reducible rfl⟩, by simp only [qaq, qam, qap, qao, qan, qaB, qaC]; rfl, ?_⟩; refine qrD (σ := Nat) 2 (qas 18 65535) (fun s_ => [(75, .tuple #[.int .i64 t171, .agg #[.int .i64 t172, .int .i64 t173, .int .i64 t174, .int .i64 t175, .int .i64 t176, .int .i64 t177]]), (16, .pointer (some ⟨s_, 0, none⟩)), (63, .tuple #[.int .i64 t171, .agg #[.int .i64 t172, .int .i64 t173, .int .i64 t174, .int .i64 t175, .int .i64 t176, .int .i64 t177]]), (76, .int .i64 t171), (77, .agg #[.int .i64 t172, .int .i64 t173, .int .i64 t174, .int .i64 t175, .int .i64 t176, .int .i64 t177])]) (fun s_ w' => (w'.cell? ⟨qbE, 0, none⟩ = some (.slice A0_0 l0_0.length c0_0) ∧ w'.cell? ⟨qbE, 1, none⟩ = some (.slice A0_1 l0_1.length c0_1) ∧ w'.cell? ⟨qbE, 2, none⟩ = some (.slice A0_2 l0_2.length c0_2) ∧ w'.cell? ⟨qbE, 3, none⟩ = some (.int .i64 a0_3) ∧ w'.cell? ⟨qbE, 4, none⟩ = some (.int .i64 a0_4) ∧ w'.cell? ⟨qbj, 0, none⟩ = some (.int .i64 qcJ) ∧ w'.cell? ⟨qbj, 1, none⟩ = some (.int .i64 qcC) ∧ w'.cell? ⟨qbj, 2, none⟩ = some (.int .i64 qcw) ∧ w'.cell? ⟨qbj, 3, none⟩ = some (.int .i64 qco) ∧ w'.cell? ⟨qbj, 4, none⟩ = some (.int .i64 qcm) ∧ w'.cell? ⟨qbj, 5, none⟩ = some (.int .i64 qcf) ∧ w'.cell? (qpp.add (qcW).toNat) = some (.int .i64 (rd l1 qcW)) ∧ w'.cell? (qpq.add (qcW).toNat) = some (.int .i64 (rd l2 qcW))) ∧ (Kd.R (Kd.int .i64) 3 w' w.heap.size (fun k_ => (w.heap.size ≤ k_)) u13 qd6) ∧ (w'.heap[qcI]? = some (.cells #[.slice A0_0 l0_0.length c0_0, .slice A0_1 l0_1.length c0_1, .slice A0_2 l0_2.length c0_2, .int .i64 a0_3, .int .i64 a0_4] 39 (0, 0))) ∧ (w'.heap[qbE]? = some (.cells #[.slice A0_0 l0_0.length c0_0, .slice A0_1 l0_1.length c0_1, .slice A0_2 l0_2.length c0_2, .int .i64 a0_3, .int .i64 a0_4] 111 (0, 0))) ∧ (w'.heap[qbj]? = some (.cells #[.int .i64 qcJ, .int .i64 qcC, .int .i64 qcw, .int .i64 qco, .int .i64 qcm, .int .i64 qcf] 115 (0, 0))) ∧ (w'.heap[s_]? = some (.cells #[.int .i64 0, .int .i64 0, .int .i64 0, .int .i64 0, .int .i64 0, .int .i64 0] 115 (0, 0))) ∧ (w.heap.size ≤ s_) ∧ (w.heap.size ≤ s_) ∧ (qcI ≠ s_) ∧ (s_ ≠ qcI) ∧ (qbE ≠ s_) ∧ (s_ ≠ qbE) ∧ (qbj ≠ s_) ∧ (s_ ≠ qbj) ∧ (Below w.heap.size w w')) ?_ ?_; rotate_left
           ·
            intro hCont; refine two_ (i := 11) (j := 15) (Ni := some 75) (Nj := some 16) (qas 18 4095) (qas 18 34815) rfl rfl rfl rfl (qqp HT_.out (by kernel_rfl)) (by decide) (by decide) (fun K hK => ?_) (fun K hK => ?_)
            ·
             skip
             refine qlD Try.func77 (by kernel_rfl) rfl #[.agg #[.slice A0_0 l0_0.length c0_0, .slice A0_1 l0_1.length c0_1, .slice A0_2 l0_2.length c0_2, .int .i64 a0_3, .int .i64 a0_4], .agg #[.int .i64 qcJ, .int .i64 qcC, .int .i64 qcw, .int .i64 qco, .int .i64 qcm, .int .i64 qcf], .int .i64 (rd l1 qcW), .int .i64 (rd l2 qcW)] 64 (by rfl) rfl rfl rfl (by (try simp only [List.map_toArray, List.map_cons, List.map_nil]); first | done | rfl | (simp only [List.length_drop, List.length_take]; rfl)) ?_
             with_reducible refine (qcT.calls _ _ l0_0 _ _ l0_1 _ _ l0_2 a0_3 a0_4 qcJ qcC qcw qco qcm qcf (rd l1 qcW) (rd l2 qcW) t171 t172 t173 t174 t175 t176 t177 _ ?side1 ?side2 ?side3 ?side4 ?side5 ?side6 A45.out).mono ?_
             (case side1 => repeat (first | exact (Kd.C_below qdr.out HB.out) | (with_reducible refine Kd.C_alloc ?_ _) | (with_reducible refine Kd.C_drewN ?_ _) | (with_reducible refine Kd.C_drew ?_)))
             (case side2 => exact qdH.out)
             (case side3 => repeat (first | exact (Kd.C_below qdu.out HB.out) | (with_reducible refine Kd.C_alloc ?_ _) | (with_reducible refine Kd.C_drewN ?_ _) | (with_reducible refine Kd.C_drew ?_)))
             (case side4 => exact qdI.out)
             (case side5 => repeat (first | exact (Kd.C_below qdv.out HB.out) | (with_reducible refine Kd.C_alloc ?_ _) | (with_reducible refine Kd.C_drewN ?_ _) | (with_reducible refine Kd.C_drew ?_)))
             (case side6 => exact qdJ.out)
             rintro e w48 ⟨rfl, hb⟩; refine ⟨_, rfl, ?_⟩; have n0_ := qaa.mk (Kd.R_below (by (with_reducible repeat (first | apply Kd.R_alloc | apply Kd.R_drewN | apply Kd.R_drew)); exact HO_13.out) hb); have n1_ := qaa.mk (qar (g := qcI) (o := .cells #[.slice A0_0 l0_0.length c0_0, .slice A0_1 l0_1.length c0_1, .slice A0_2 l0_2.length c0_2, .int .i64 a0_3, .int .i64 a0_4] 39 (0, 0)) (by (with_reducible repeat (first | refine qac ?_ _ | refine qae ?_ | refine qab ?_ _)); exact qbw.out) hb); have n2_ := qaa.mk (qar (g := qbE) (o := .cells #[.slice A0_0 l0_0.length c0_0, .slice A0_1 l0_1.length c0_1, .slice A0_2 l0_2.length c0_2, .int .i64 a0_3, .int .i64 a0_4] 111 (0, 0)) (by (with_reducible repeat (first | refine qac ?_ _ | refine qae ?_ | refine qab ?_ _)); exact qaX.out) hb); have n3_ := qaa.mk (qar (g := qbj) (o := .cells #[.int .i64 qcJ, .int .i64 qcC, .int .i64 qcw, .int .i64 qco, .int .i64 qcm, .int .i64 qcf] 115 (0, 0)) (by (with_reducible repeat (first | refine qac ?_ _ | refine qae ?_ | refine qab ?_ _)); exact qbo.out) hb); have n4_ := qaa.mk (qaA (by repeat (first | (with_reducible first | exact HB.out | apply qag | apply qad | apply qah | refine qaf ?_ qcF.out | refine qaf ?_ qcQ.out | refine qaf ?_ qfn.out) | exact HB.out)) hb); clear HO_13 qbw qaX qbo HB; have HO_13 := n0_; have qbw := n1_; have qaX := n2_; have qbo := n3_; have HB := n4_; clear n0_ n1_ n2_ n3_ n4_
             (try clear hb)
             (try clear hb2)
             (try clear hk)
             (try clear hi)
             refine hK.out _ _ ⟨(qai qaX.out 0).trans rfl, (qai qaX.out 1).trans rfl, (qai qaX.out 2).trans rfl, (qai qaX.out 3).trans rfl, (qai qaX.out 4).trans rfl, (qai qbo.out 0).trans rfl, (qai qbo.out 1).trans rfl, (qai qbo.out 2).trans rfl, (qai qbo.out 3).trans rfl, (qai qbo.out 4).trans rfl, (qai qbo.out 5).trans rfl, ((HB.out.cell (World.block_lt_of_cell? w _ qcs)).trans qcs), ((HB.out.cell (World.block_lt_of_cell? w _ qct)).trans qct)⟩ (fun hHeld => ?_); clear hK K; refine qcX (a' := ?_) ?_ ?_; rotate_left
             ·
              show Act.put _ (some 75) _ = _
              simp only [qaq, qam, qap, qao, qan, qaB, qaC]; rfl
             refine qax 12 (some 63) (qas 18 8191) rfl rfl HT_.out (by kernel_rfl) (fun _ _ _ h => h) ⟨.inl ⟨by rfl, fun w' => by go_simp; with_reducible rfl⟩, by simp only [qaq, qam, qap, qao, qan, qaB, qaC]; rfl, ?_⟩; refine qax 13 (some 76) (qas 18 16383) rfl rfl HT_.out (by kernel_rfl) (fun _ _ _ h => h) ⟨.inl ⟨by rfl, fun w' => by go_simp; with_reducible rfl⟩, by simp only [qaq, qam, qap, qao, qan, qaB, qaC]; rfl, ?_⟩; refine qax 14 (some 77) (qas 18 32767) rfl rfl HT_.out (by kernel_rfl) (fun _ _ _ h => h) ⟨.inl ⟨by rfl, fun w' => by go_simp; with_reducible rfl⟩, by simp only [qaq, qam, qap, qao, qan, qaB, qaC]; rfl, ?_⟩; refine one_ (i := 15) (N := some 16) (qas 18 65535) rfl rfl (qdd HT_.out (by kernel_rfl)) (by decide) (fun K hK => ?_); refine qj0 ?hg (N := 16) ?hd (cs := #[.int .i64 0, .int .i64 0, .int .i64 0, .int .i64 0, .int .i64 0, .int .i64 0]) (t := 115) ?hr ?_; (case hd => rfl); (case hg => rfl); (case hr => first | (go_simp; done) | (go_simp; rfl)); intro qaR hg w49 hbox hb; have n0_ := qaa.mk (Kd.R_below (by (with_reducible repeat (first | apply Kd.R_alloc | apply Kd.R_drewN | apply Kd.R_drew)); exact HO_13.out) hb); have n1_ := qaa.mk (qar (g := qcI) (o := .cells #[.slice A0_0 l0_0.length c0_0, .slice A0_1 l0_1.length c0_1, .slice A0_2 l0_2.length c0_2, .int .i64 a0_3, .int .i64 a0_4] 39 (0, 0)) (by (with_reducible repeat (first | refine qac ?_ _ | refine qae ?_ | refine qab ?_ _)); exact qbw.out) hb); have n2_ := qaa.mk (qar (g := qbE) (o := .cells #[.slice A0_0 l0_0.length c0_0, .slice A0_1 l0_1.length c0_1, .slice A0_2 l0_2.length c0_2, .int .i64 a0_3, .int .i64 a0_4] 111 (0, 0)) (by (with_reducible repeat (first | refine qac ?_ _ | refine qae ?_ | refine qab ?_ _)); exact qaX.out) hb); have n3_ := qaa.mk (qar (g := qbj) (o := .cells #[.int .i64 qcJ, .int .i64 qcC, .int .i64 qcw, .int .i64 qco, .int .i64 qcm, .int .i64 qcf] 115 (0, 0)) (by (with_reducible repeat (first | refine qac ?_ _ | refine qae ?_ | refine qab ?_ _)); exact qbo.out) hb); have n4_ := qaa.mk (qaA (by repeat (first | (with_reducible first | exact HB.out | apply qag | apply qad | apply qah | refine qaf ?_ qcF.out | refine qaf ?_ qcQ.out | refine qaf ?_ qfn.out) | exact HB.out)) hb); have n5_ := qaa.mk (hbox); have n6_ := qaa.mk ((by rw [hg]; exact (qav (by repeat (first | (with_reducible first | exact HB.out | apply qag | apply qad | apply qah | refine qaf ?_ qcF.out | refine qaf ?_ qcQ.out | refine qaf ?_ qfn.out) | exact HB.out))) : w.heap.size ≤ qaR)); have n7_ := qaa.mk ((by rw [hg]; exact (qav (by repeat (first | (with_reducible first | exact HB.out | apply qag | apply qad | apply qah | refine qaf ?_ qcF.out | refine qaf ?_ qcQ.out | refine qaf ?_ qfn.out) | exact HB.out))) : w.heap.size ≤ qaR)); have n8_ := qaa.mk ((by rw [hg]; exact Nat.ne_of_lt (qaN (g := qcI) (o := .cells #[.slice A0_0 l0_0.length c0_0, .slice A0_1 l0_1.length c0_1, .slice A0_2 l0_2.length c0_2, .int .i64 a0_3, .int .i64 a0_4] 39 (0, 0)) (by (with_reducible repeat (first | refine qac ?_ _ | refine qae ?_ | refine qab ?_ _)); exact qbw.out)) : qcI ≠ qaR)); have n9_ := qaa.mk ((by rw [hg]; exact Nat.ne_of_gt (qaN (g := qcI) (o := .cells #[.slice A0_0 l0_0.length c0_0, .slice A0_1 l0_1.length c0_1, .slice A0_2 l0_2.length c0_2, .int .i64 a0_3, .int .i64 a0_4] 39 (0, 0)) (by (with_reducible repeat (first | refine qac ?_ _ | refine qae ?_ | refine qab ?_ _)); exact qbw.out)) : qaR ≠ qcI)); have n10_ := qaa.mk ((by rw [hg]; exact Nat.ne_of_lt (qaN (g := qbE) (o := .cells #[.slice A0_0 l0_0.length c0_0, .slice A0_1 l0_1.length c0_1, .slice A0_2 l0_2.length c0_2, .int .i64 a0_3, .int .i64 a0_4] 111 (0, 0)) (by (with_reducible repeat (first | refine qac ?_ _ | refine qae ?_ | refine qab ?_ _)); exact qaX.out)) : qbE ≠ qaR)); have n11_ := qaa.mk ((by rw [hg]; exact Nat.ne_of_gt (qaN (g := qbE) (o := .cells #[.slice A0_0 l0_0.length c0_0, .slice A0_1 l0_1.length c0_1, .slice A0_2 l0_2.length c0_2, .int .i64 a0_3, .int .i64 a0_4] 111 (0, 0)) (by (with_reducible repeat (first | refine qac ?_ _ | refine qae ?_ | refine qab ?_ _)); exact qaX.out)) : qaR ≠ qbE)); have n12_ := qaa.mk ((by rw [hg]; exact Nat.ne_of_lt (qaN (g := qbj) (o := .cells #[.int .i64 qcJ, .int .i64 qcC, .int .i64 qcw, .int .i64 qco, .int .i64 qcm, .int .i64 qcf] 115 (0, 0)) (by (with_reducible repeat (first | refine qac ?_ _ | refine qae ?_ | refine qab ?_ _)); exact qbo.out)) : qbj ≠ qaR)); have n13_ := qaa.mk ((by rw [hg]; exact Nat.ne_of_gt (qaN (g := qbj) (o := .cells #[.int .i64 qcJ, .int .i64 qcC, .int .i64 qcw, .int .i64 qco, .int .i64 qcm, .int .i64 qcf] 115 (0, 0)) (by (with_reducible repeat (first | refine qac ?_ _ | refine qae ?_ | refine qab ?_ _)); exact qbo.out)) : qaR ≠ qbj)); clear HO_13 qbw qaX qbo HB; have HO_13 := n0_; have qbw := n1_; have qaX := n2_; have qbo := n3_; have HB := n4_; have qcp := n5_; have qci := n6_; have qgN := n7_; have qdD := n8_; have qeS := n9_; have qbu := n10_; have qeT := n11_; have qbf := n12_; have qbl := n13_; clear n0_ n1_ n2_ n3_ n4_ n5_ n6_ n7_ n8_ n9_ n10_ n11_ n12_ n13_ hb hbox hg; refine hK.out _ _ ⟨(qai qaX.out 0).trans rfl, (qai qaX.out 1).trans rfl, (qai qaX.out 2).trans rfl, (qai qaX.out 3).trans rfl, (qai qaX.out 4).trans rfl, (qai qbo.out 0).trans rfl, (qai qbo.out 1).trans rfl, (qai qbo.out 2).trans rfl, (qai qbo.out 3).trans rfl, (qai qbo.out 4).trans rfl, (qai qbo.out 5).trans rfl, ((HB.out.cell (World.block_lt_of_cell? w _ qcs)).trans qcs), ((HB.out.cell (World.block_lt_of_cell? w _ qct)).trans qct)⟩ (fun hHeld => ?_); clear hK K; refine qcX (a' := ?_) ?_ ?_; rotate_left
             ·
              show Act.put _ (some 16) _ = _
              simp only [qaq, qam, qap, qao, qan, qaB, qaC]; rfl
             exact qcX (by simp only [qhG, Act.put, List.setIfInBounds_toArray, List.set_cons_zero, List.set_cons_succ]) (hCont (qaR) _ ⟨hHeld, (by (with_reducible repeat (first | apply Kd.R_alloc | apply Kd.R_drewN | apply Kd.R_drew)); exact HO_13.out), (by (with_reducible repeat (first | refine qac ?_ _ | refine qae ?_ | refine qab ?_ _)); exact qbw.out), (by (with_reducible repeat (first | refine qac ?_ _ | refine qae ?_ | refine qab ?_ _)); exact qaX.out), (by (with_reducible repeat (first | refine qac ?_ _ | refine qae ?_ | refine qab ?_ _)); exact qbo.out), (by (with_reducible repeat (first | refine qac ?_ _ | refine qae ?_ | refine qab ?_ _)); exact qcp.out), qci.out, qgN.out, qdD.out, qeS.out, qbu.out, qeT.out, qbf.out, qbl.out, (by repeat (first | (with_reducible first | exact HB.out | apply qag | apply qad | apply qah | refine qaf ?_ qcF.out | refine qaf ?_ qcQ.out | refine qaf ?_ qfn.out | refine qaf ?_ qgN.out) | exact HB.out))⟩)
            skip
            refine qj0 ?hg (N := 16) ?hd (cs := #[.int .i64 0, .int .i64 0, .int .i64 0, .int .i64 0, .int .i64 0, .int .i64 0]) (t := 115) ?hr ?_; (case hd => rfl); (case hg => rfl); (case hr => first | (go_simp; done) | (go_simp; rfl)); intro qaR hg w48 hbox hb; have n0_ := qaa.mk (Kd.R_below (by (with_reducible repeat (first | apply Kd.R_alloc | apply Kd.R_drewN | apply Kd.R_drew)); exact HO_13.out) hb); have n1_ := qaa.mk (qar (g := qcI) (o := .cells #[.slice A0_0 l0_0.length c0_0, .slice A0_1 l0_1.length c0_1, .slice A0_2 l0_2.length c0_2, .int .i64 a0_3, .int .i64 a0_4] 39 (0, 0)) (by (with_reducible repeat (first | refine qac ?_ _ | refine qae ?_ | refine qab ?_ _)); exact qbw.out) hb); have n2_ := qaa.mk (qar (g := qbE) (o := .cells #[.slice A0_0 l0_0.length c0_0, .slice A0_1 l0_1.length c0_1, .slice A0_2 l0_2.length c0_2, .int .i64 a0_3, .int .i64 a0_4] 111 (0, 0)) (by (with_reducible repeat (first | refine qac ?_ _ | refine qae ?_ | refine qab ?_ _)); exact qaX.out) hb); have n3_ := qaa.mk (qar (g := qbj) (o := .cells #[.int .i64 qcJ, .int .i64 qcC, .int .i64 qcw, .int .i64 qco, .int .i64 qcm, .int .i64 qcf] 115 (0, 0)) (by (with_reducible repeat (first | refine qac ?_ _ | refine qae ?_ | refine qab ?_ _)); exact qbo.out) hb); have n4_ := qaa.mk (qaA (by repeat (first | (with_reducible first | exact HB.out | apply qag | apply qad | apply qah | refine qaf ?_ qcF.out | refine qaf ?_ qcQ.out | refine qaf ?_ qfn.out) | exact HB.out)) hb); have n5_ := qaa.mk (hbox); have n6_ := qaa.mk ((by rw [hg]; exact (qav (by repeat (first | (with_reducible first | exact HB.out | apply qag | apply qad | apply qah | refine qaf ?_ qcF.out | refine qaf ?_ qcQ.out | refine qaf ?_ qfn.out) | exact HB.out))) : w.heap.size ≤ qaR)); have n7_ := qaa.mk ((by rw [hg]; exact (qav (by repeat (first | (with_reducible first | exact HB.out | apply qag | apply qad | apply qah | refine qaf ?_ qcF.out | refine qaf ?_ qcQ.out | refine qaf ?_ qfn.out) | exact HB.out))) : w.heap.size ≤ qaR)); have n8_ := qaa.mk ((by rw [hg]; exact Nat.ne_of_lt (qaN (g := qcI) (o := .cells #[.slice A0_0 l0_0.length c0_0, .slice A0_1 l0_1.length c0_1, .slice A0_2 l0_2.length c0_2, .int .i64 a0_3, .int .i64 a0_4] 39 (0, 0)) (by (with_reducible repeat (first | refine qac ?_ _ | refine qae ?_ | refine qab ?_ _)); exact qbw.out)) : qcI ≠ qaR)); have n9_ := qaa.mk ((by rw [hg]; exact Nat.ne_of_gt (qaN (g := qcI) (o := .cells #[.slice A0_0 l0_0.length c0_0, .slice A0_1 l0_1.length c0_1, .slice A0_2 l0_2.length c0_2, .int .i64 a0_3, .int .i64 a0_4] 39 (0, 0)) (by (with_reducible repeat (first | refine qac ?_ _ | refine qae ?_ | refine qab ?_ _)); exact qbw.out)) : qaR ≠ qcI)); have n10_ := qaa.mk ((by rw [hg]; exact Nat.ne_of_lt (qaN (g := qbE) (o := .cells #[.slice A0_0 l0_0.length c0_0, .slice A0_1 l0_1.length c0_1, .slice A0_2 l0_2.length c0_2, .int .i64 a0_3, .int .i64 a0_4] 111 (0, 0)) (by (with_reducible repeat (first | refine qac ?_ _ | refine qae ?_ | refine qab ?_ _)); exact qaX.out)) : qbE ≠ qaR)); have n11_ := qaa.mk ((by rw [hg]; exact Nat.ne_of_gt (qaN (g := qbE) (o := .cells #[.slice A0_0 l0_0.length c0_0, .slice A0_1 l0_1.length c0_1, .slice A0_2 l0_2.length c0_2, .int .i64 a0_3, .int .i64 a0_4] 111 (0, 0)) (by (with_reducible repeat (first | refine qac ?_ _ | refine qae ?_ | refine qab ?_ _)); exact qaX.out)) : qaR ≠ qbE)); have n12_ := qaa.mk ((by rw [hg]; exact Nat.ne_of_lt (qaN (g := qbj) (o := .cells #[.int .i64 qcJ, .int .i64 qcC, .int .i64 qcw, .int .i64 qco, .int .i64 qcm, .int .i64 qcf] 115 (0, 0)) (by (with_reducible repeat (first | refine qac ?_ _ | refine qae ?_ | refine qab ?_ _)); exact qbo.out)) : qbj ≠ qaR)); have n13_ := qaa.mk ((by rw [hg]; exact Nat.ne_of_gt (qaN (g := qbj) (o := .cells #[.int .i64 qcJ, .int .i64 qcC, .int .i64 qcw, .int .i64 qco, .int .i64 qcm, .int .i64 qcf] 115 (0, 0)) (by (with_reducible repeat (first | refine qac ?_ _ | refine qae ?_ | refine qab ?_ _)); exact qbo.out)) : qaR ≠ qbj)); clear HO_13 qbw qaX qbo HB; have HO_13 := n0_; have qbw := n1_; have qaX := n2_; have qbo := n3_; have HB := n4_; have qcp := n5_; have qci := n6_; have qgN := n7_; have qdD := n8_; have qeS := n9_; have qbu := n10_; have qeT := n11_; have qbf := n12_; have qbl := n13_; clear n0_ n1_ n2_ n3_ n4_ n5_ n6_ n7_ n8_ n9_ n10_ n11_ n12_ n13_ hb hbox hg; refine hK.out _ _ ⟨(qai qaX.out 0).trans rfl, (qai qaX.out 1).trans rfl, (qai qaX.out 2).trans rfl, (qai qaX.out 3).trans rfl, (qai qaX.out 4).trans rfl, (qai qbo.out 0).trans rfl, (qai qbo.out 1).trans rfl, (qai qbo.out 2).trans rfl, (qai qbo.out 3).trans rfl, (qai qbo.out 4).trans rfl, (qai qbo.out 5).trans rfl, ((HB.out.cell (World.block_lt_of_cell? w _ qcs)).trans qcs), ((HB.out.cell (World.block_lt_of_cell? w _ qct)).trans qct)⟩ (fun hHeld => ?_); clear hK K; refine qcX (a' := ?_) ?_ ?_; rotate_left
            ·
             show Act.put _ (some 16) _ = _
             simp only [qaq, qam, qap, qao, qan, qaB, qaC]; rfl
            refine one_ (i := 11) (N := some 75) (qas 18 36863) rfl rfl (qdd HT_.out (by kernel_rfl)) (by decide) (fun K hK => ?_); refine qlD Try.func77 (by kernel_rfl) rfl #[.agg #[.slice A0_0 l0_0.length c0_0, .slice A0_1 l0_1.length c0_1, .slice A0_2 l0_2.length c0_2, .int .i64 a0_3, .int .i64 a0_4], .agg #[.int .i64 qcJ, .int .i64 qcC, .int .i64 qcw, .int .i64 qco, .int .i64 qcm, .int .i64 qcf], .int .i64 (rd l1 qcW), .int .i64 (rd l2 qcW)] 64 (by rfl) rfl rfl rfl (by (try simp only [List.map_toArray, List.map_cons, List.map_nil]); first | done | rfl | (simp only [List.length_drop, List.length_take]; rfl)) ?_
            with_reducible refine (qcT.calls _ _ l0_0 _ _ l0_1 _ _ l0_2 a0_3 a0_4 qcJ qcC qcw qco qcm qcf (rd l1 qcW) (rd l2 qcW) t171 t172 t173 t174 t175 t176 t177 _ ?side1 ?side2 ?side3 ?side4 ?side5 ?side6 A45.out).mono ?_
            (case side1 => repeat (first | exact (Kd.C_below qdr.out HB.out) | (with_reducible refine Kd.C_alloc ?_ _) | (with_reducible refine Kd.C_drewN ?_ _) | (with_reducible refine Kd.C_drew ?_)))
            (case side2 => exact qdH.out)
            (case side3 => repeat (first | exact (Kd.C_below qdu.out HB.out) | (with_reducible refine Kd.C_alloc ?_ _) | (with_reducible refine Kd.C_drewN ?_ _) | (with_reducible refine Kd.C_drew ?_)))
            (case side4 => exact qdI.out)
            (case side5 => repeat (first | exact (Kd.C_below qdv.out HB.out) | (with_reducible refine Kd.C_alloc ?_ _) | (with_reducible refine Kd.C_drewN ?_ _) | (with_reducible refine Kd.C_drew ?_)))
            (case side6 => exact qdJ.out)
            rintro e w49 ⟨rfl, hb⟩; refine ⟨_, rfl, ?_⟩; have n0_ := qaa.mk (Kd.R_below (by (with_reducible repeat (first | apply Kd.R_alloc | apply Kd.R_drewN | apply Kd.R_drew)); exact HO_13.out) hb); have n1_ := qaa.mk (qar (g := qcI) (o := .cells #[.slice A0_0 l0_0.length c0_0, .slice A0_1 l0_1.length c0_1, .slice A0_2 l0_2.length c0_2, .int .i64 a0_3, .int .i64 a0_4] 39 (0, 0)) (by (with_reducible repeat (first | refine qac ?_ _ | refine qae ?_ | refine qab ?_ _)); exact qbw.out) hb); have n2_ := qaa.mk (qar (g := qbE) (o := .cells #[.slice A0_0 l0_0.length c0_0, .slice A0_1 l0_1.length c0_1, .slice A0_2 l0_2.length c0_2, .int .i64 a0_3, .int .i64 a0_4] 111 (0, 0)) (by (with_reducible repeat (first | refine qac ?_ _ | refine qae ?_ | refine qab ?_ _)); exact qaX.out) hb); have n3_ := qaa.mk (qar (g := qbj) (o := .cells #[.int .i64 qcJ, .int .i64 qcC, .int .i64 qcw, .int .i64 qco, .int .i64 qcm, .int .i64 qcf] 115 (0, 0)) (by (with_reducible repeat (first | refine qac ?_ _ | refine qae ?_ | refine qab ?_ _)); exact qbo.out) hb); have n4_ := qaa.mk (qar (g := qaR) (o := .cells #[.int .i64 0, .int .i64 0, .int .i64 0, .int .i64 0, .int .i64 0, .int .i64 0] 115 (0, 0)) (by (with_reducible repeat (first | refine qac ?_ _ | refine qae ?_ | refine qab ?_ _)); exact qcp.out) hb); have n5_ := qaa.mk (qaA (by repeat (first | (with_reducible first | exact HB.out | apply qag | apply qad | apply qah | refine qaf ?_ qcF.out | refine qaf ?_ qcQ.out | refine qaf ?_ qfn.out | refine qaf ?_ qgN.out) | exact HB.out)) hb); clear HO_13 qbw qaX qbo qcp HB; have HO_13 := n0_; have qbw := n1_; have qaX := n2_; have qbo := n3_; have qcp := n4_; have HB := n5_; clear n0_ n1_ n2_ n3_ n4_ n5_
            (try clear hb)
            (try clear hb2)
            (try clear hk)
            (try clear hi)
            refine hK.out _ _ ⟨(qai qaX.out 0).trans rfl, (qai qaX.out 1).trans rfl, (qai qaX.out 2).trans rfl, (qai qaX.out 3).trans rfl, (qai qaX.out 4).trans rfl, (qai qbo.out 0).trans rfl, (qai qbo.out 1).trans rfl, (qai qbo.out 2).trans rfl, (qai qbo.out 3).trans rfl, (qai qbo.out 4).trans rfl, (qai qbo.out 5).trans rfl, ((HB.out.cell (World.block_lt_of_cell? w _ qcs)).trans qcs), ((HB.out.cell (World.block_lt_of_cell? w _ qct)).trans qct)⟩ (fun hHeld => ?_); clear hK K; refine qcX (a' := ?_) ?_ ?_; rotate_left
            ·
             show Act.put _ (some 75) _ = _
             simp only [qaq, qam, qap, qao, qan, qaB, qaC]; rfl
            refine qax 12 (some 63) (qas 18 40959) rfl rfl HT_.out (by kernel_rfl) (fun _ _ _ h => h) ⟨.inl ⟨by rfl, fun w' => by go_simp; with_reducible rfl⟩, by simp only [qaq, qam, qap, qao, qan, qaB, qaC]; rfl, ?_⟩; refine qax 13 (some 76) (qas 18 49151) rfl rfl HT_.out (by kernel_rfl) (fun _ _ _ h => h) ⟨.inl ⟨by rfl, fun w' => by go_simp; with_reducible rfl⟩, by simp only [qaq, qam, qap, qao, qan, qaB, qaC]; rfl, ?_⟩; refine qax 14 (some 77) (qas 18 65535) rfl rfl HT_.out (by kernel_rfl) (fun _ _ _ h => h) ⟨.inl ⟨by rfl, fun w' => by go_simp; with_reducible rfl⟩, by simp only [qaq, qam, qap, qao, qan, qaB, qaC]; rfl, ?_⟩
            exact qcX (by simp only [qhG, Act.put, List.setIfInBounds_toArray, List.set_cons_zero, List.set_cons_succ]) (hCont (qaR) _ ⟨hHeld, (by (with_reducible repeat (first | apply Kd.R_alloc | apply Kd.R_drewN | apply Kd.R_drew)); exact HO_13.out), (by (with_reducible repeat (first | refine qac ?_ _ | refine qae ?_ | refine qab ?_ _)); exact qbw.out), (by (with_reducible repeat (first | refine qac ?_ _ | refine qae ?_ | refine qab ?_ _)); exact qaX.out), (by (with_reducible repeat (first | refine qac ?_ _ | refine qae ?_ | refine qab ?_ _)); exact qbo.out), (by (with_reducible repeat (first | refine qac ?_ _ | refine qae ?_ | refine qab ?_ _)); exact qcp.out), qci.out, qgN.out, qdD.out, qeS.out, qbu.out, qeT.out, qbf.out, qbl.out, (by repeat (first | (with_reducible first | exact HB.out | apply qag | apply qad | apply qah | refine qaf ?_ qcF.out | refine qaf ?_ qcQ.out | refine qaf ?_ qfn.out | refine qaf ?_ qgN.out) | exact HB.out))⟩)
           rintro qaR w50 ⟨hS_, h0_, h1_, h2_, h3_, h4_, h5_, h6_, h7_, h8_, h9_, h10_, h11_, h12_, h13_⟩; have n0_ : qaa (Kd.R (Kd.int .i64) 3 w50 w.heap.size (fun k_ => (w.heap.size ≤ k_)) u13 qd6) := ⟨h0_⟩; have n1_ : qaa (w50.heap[qcI]? = some (.cells #[.slice A0_0 l0_0.length c0_0, .slice A0_1 l0_1.length c0_1, .slice A0_2 l0_2.length c0_2, .int .i64 a0_3, .int .i64 a0_4] 39 (0, 0))) := ⟨h1_⟩; have n2_ : qaa (w50.heap[qbE]? = some (.cells #[.slice A0_0 l0_0.length c0_0, .slice A0_1 l0_1.length c0_1, .slice A0_2 l0_2.length c0_2, .int .i64 a0_3, .int .i64 a0_4] 111 (0, 0))) := ⟨h2_⟩; have n3_ : qaa (w50.heap[qbj]? = some (.cells #[.int .i64 qcJ, .int .i64 qcC, .int .i64 qcw, .int .i64 qco, .int .i64 qcm, .int .i64 qcf] 115 (0, 0))) := ⟨h3_⟩; have n4_ : qaa (w50.heap[qaR]? = some (.cells #[.int .i64 0, .int .i64 0, .int .i64 0, .int .i64 0, .int .i64 0, .int .i64 0] 115 (0, 0))) := ⟨h4_⟩; have n5_ : qaa (w.heap.size ≤ qaR) := ⟨h5_⟩; have n6_ : qaa (w.heap.size ≤ qaR) := ⟨h6_⟩; have n7_ : qaa (qcI ≠ qaR) := ⟨h7_⟩; have n8_ : qaa (qaR ≠ qcI) := ⟨h8_⟩; have n9_ : qaa (qbE ≠ qaR) := ⟨h9_⟩; have n10_ : qaa (qaR ≠ qbE) := ⟨h10_⟩; have n11_ : qaa (qbj ≠ qaR) := ⟨h11_⟩; have n12_ : qaa (qaR ≠ qbj) := ⟨h12_⟩; have n13_ : qaa (Below w.heap.size w w50) := ⟨h13_⟩; clear HO_13 qbw qaX qbo HB h0_ h1_ h2_ h3_ h4_ h5_ h6_ h7_ h8_ h9_ h10_ h11_ h12_ h13_; have HO_13 := n0_; have qbw := n1_; have qaX := n2_; have qbo := n3_; have qcp := n4_; have qci := n5_; have qgN := n6_; have qdD := n7_; have qeS := n8_; have qbu := n9_; have qeT := n10_; have qbf := n11_; have qbl := n12_; have HB := n13_; clear n0_ n1_ n2_ n3_ n4_ n5_ n6_ n7_ n8_ n9_ n10_ n11_ n12_ n13_; have hHeld : w50.cell? ⟨qbE, 0, none⟩ = some (.slice A0_0 l0_0.length c0_0) ∧ w50.cell? ⟨qbE, 1, none⟩ = some (.slice A0_1 l0_1.length c0_1) ∧ w50.cell? ⟨qbE, 2, none⟩ = some (.slice A0_2 l0_2.length c0_2) ∧ w50.cell? ⟨qbE, 3, none⟩ = some (.int .i64 a0_3) ∧ w50.cell? ⟨qbE, 4, none⟩ = some (.int .i64 a0_4) ∧ w50.cell? ⟨qbj, 0, none⟩ = some (.int .i64 qcJ) ∧ w50.cell? ⟨qbj, 1, none⟩ = some (.int .i64 qcC) ∧ w50.cell? ⟨qbj, 2, none⟩ = some (.int .i64 qcw) ∧ w50.cell? ⟨qbj, 3, none⟩ = some (.int .i64 qco) ∧ w50.cell? ⟨qbj, 4, none⟩ = some (.int .i64 qcm) ∧ w50.cell? ⟨qbj, 5, none⟩ = some (.int .i64 qcf) ∧ w50.cell? (qpp.add (qcW).toNat) = some (.int .i64 (rd l1 qcW)) ∧ w50.cell? (qpq.add (qcW).toNat) = some (.int .i64 (rd l2 qcW)) := hS_; refine qcX (a' := ?_) ?_ ?_; rotate_left
           · simp only [qhG, Act.put, List.setIfInBounds_toArray, List.set_cons_zero, List.set_cons_succ]; rfl
           refine qax 16 (some 15) (qas 18 131071) rfl rfl HT_.out (by kernel_rfl) (fun _ _ _ h => h) ⟨.inl ⟨by rfl, fun w' => by go_simp; with_reducible rfl⟩, by simp only [qaq, qam, qap, qao, qan, qaB, qaC]; rfl, ?_⟩; refine one_ (i := 17) (N := none) (qas 18 262143) rfl rfl (qdd HT_.out (by kernel_rfl)) (by decide) (fun K hK => ?_); have hs51 : w50.cell? ⟨qaR, 0, none⟩ = some (.int .i64 0) := (qai qcp.out 0).trans rfl; have qC0 := qaj qcp.out 0; have qBg := qdD.out; have qBh := qbu.out; have qBi := qbf.out; have qAu := qeS.out; have qAv := qeT.out; have qAw := qbl.out; have hs52 : w50.cell? ⟨qaR, 1, none⟩ = some (.int .i64 0) := (qai qcp.out 1).trans rfl; have qC1 := qaj qcp.out 1; have qBj := qdD.out; have qBk := qbu.out; have qBl := qbf.out; have qAx := qeS.out; have qAy := qeT.out; have qAz := qbl.out; have hs53 : w50.cell? ⟨qaR, 2, none⟩ = some (.int .i64 0) := (qai qcp.out 2).trans rfl; have qC2 := qaj qcp.out 2; have qBm := qdD.out; have qBn := qbu.out; have qBo := qbf.out; have qAA := qeS.out; have qAB := qeT.out; have qAC := qbl.out; have hs54 : w50.cell? ⟨qaR, 3, none⟩ = some (.int .i64 0) := (qai qcp.out 3).trans rfl; have qC3 := qaj qcp.out 3; have qBp := qdD.out; have qBq := qbu.out; have qBr := qbf.out; have qAD := qeS.out; have qAE := qeT.out; have qAF := qbl.out; have hs55 : w50.cell? ⟨qaR, 4, none⟩ = some (.int .i64 0) := (qai qcp.out 4).trans rfl; have qC4 := qaj qcp.out 4; have qBs := qdD.out; have qBt := qbu.out; have qBu := qbf.out; have qAG := qeS.out; have qAH := qeT.out; have qAI := qbl.out; have hs56 : w50.cell? ⟨qaR, 5, none⟩ = some (.int .i64 0) := (qai qcp.out 5).trans rfl; have qC5 := qaj qcp.out 5; have qBv := qdD.out; have qBw := qbu.out; have qBx := qbf.out; have qAJ := qeS.out; have qAK := qeT.out; have qAL := qbl.out; refine qpM (w1 := ?_) (by rfl) rfl ?_ ?_; rotate_left
           ·
            go_simp; rfl
           refine hK.out _ _ ⟨((qaz (p := ⟨qaR, _, none⟩) qbu.out _).trans (((qaz (p := ⟨qaR, _, none⟩) qbu.out _).trans (((qaz (p := ⟨qaR, _, none⟩) qbu.out _).trans (((qaz (p := ⟨qaR, _, none⟩) qbu.out _).trans (((qaz (p := ⟨qaR, _, none⟩) qbu.out _).trans (((qaz (p := ⟨qaR, _, none⟩) qbu.out _).trans (hHeld.1)))))))))))), ((qaz (p := ⟨qaR, _, none⟩) qbu.out _).trans (((qaz (p := ⟨qaR, _, none⟩) qbu.out _).trans (((qaz (p := ⟨qaR, _, none⟩) qbu.out _).trans (((qaz (p := ⟨qaR, _, none⟩) qbu.out _).trans (((qaz (p := ⟨qaR, _, none⟩) qbu.out _).trans (((qaz (p := ⟨qaR, _, none⟩) qbu.out _).trans (hHeld.2.1)))))))))))), ((qaz (p := ⟨qaR, _, none⟩) qbu.out _).trans (((qaz (p := ⟨qaR, _, none⟩) qbu.out _).trans (((qaz (p := ⟨qaR, _, none⟩) qbu.out _).trans (((qaz (p := ⟨qaR, _, none⟩) qbu.out _).trans (((qaz (p := ⟨qaR, _, none⟩) qbu.out _).trans (((qaz (p := ⟨qaR, _, none⟩) qbu.out _).trans (hHeld.2.2.1)))))))))))), ((qaz (p := ⟨qaR, _, none⟩) qbu.out _).trans (((qaz (p := ⟨qaR, _, none⟩) qbu.out _).trans (((qaz (p := ⟨qaR, _, none⟩) qbu.out _).trans (((qaz (p := ⟨qaR, _, none⟩) qbu.out _).trans (((qaz (p := ⟨qaR, _, none⟩) qbu.out _).trans (((qaz (p := ⟨qaR, _, none⟩) qbu.out _).trans (hHeld.2.2.2.1)))))))))))), ((qaz (p := ⟨qaR, _, none⟩) qbu.out _).trans (((qaz (p := ⟨qaR, _, none⟩) qbu.out _).trans (((qaz (p := ⟨qaR, _, none⟩) qbu.out _).trans (((qaz (p := ⟨qaR, _, none⟩) qbu.out _).trans (((qaz (p := ⟨qaR, _, none⟩) qbu.out _).trans (((qaz (p := ⟨qaR, _, none⟩) qbu.out _).trans (hHeld.2.2.2.2.1)))))))))))), ((qaz (p := ⟨qaR, _, none⟩) qbf.out _).trans (((qaz (p := ⟨qaR, _, none⟩) qbf.out _).trans (((qaz (p := ⟨qaR, _, none⟩) qbf.out _).trans (((qaz (p := ⟨qaR, _, none⟩) qbf.out _).trans (((qaz (p := ⟨qaR, _, none⟩) qbf.out _).trans (((qaz (p := ⟨qaR, _, none⟩) qbf.out _).trans (hHeld.2.2.2.2.2.1)))))))))))), ((qaz (p := ⟨qaR, _, none⟩) qbf.out _).trans (((qaz (p := ⟨qaR, _, none⟩) qbf.out _).trans (((qaz (p := ⟨qaR, _, none⟩) qbf.out _).trans (((qaz (p := ⟨qaR, _, none⟩) qbf.out _).trans (((qaz (p := ⟨qaR, _, none⟩) qbf.out _).trans (((qaz (p := ⟨qaR, _, none⟩) qbf.out _).trans (hHeld.2.2.2.2.2.2.1)))))))))))), ((qaz (p := ⟨qaR, _, none⟩) qbf.out _).trans (((qaz (p := ⟨qaR, _, none⟩) qbf.out _).trans (((qaz (p := ⟨qaR, _, none⟩) qbf.out _).trans (((qaz (p := ⟨qaR, _, none⟩) qbf.out _).trans (((qaz (p := ⟨qaR, _, none⟩) qbf.out _).trans (((qaz (p := ⟨qaR, _, none⟩) qbf.out _).trans (hHeld.2.2.2.2.2.2.2.1)))))))))))), ((qaz (p := ⟨qaR, _, none⟩) qbf.out _).trans (((qaz (p := ⟨qaR, _, none⟩) qbf.out _).trans (((qaz (p := ⟨qaR, _, none⟩) qbf.out _).trans (((qaz (p := ⟨qaR, _, none⟩) qbf.out _).trans (((qaz (p := ⟨qaR, _, none⟩) qbf.out _).trans (((qaz (p := ⟨qaR, _, none⟩) qbf.out _).trans (hHeld.2.2.2.2.2.2.2.2.1)))))))))))), ((qaz (p := ⟨qaR, _, none⟩) qbf.out _).trans (((qaz (p := ⟨qaR, _, none⟩) qbf.out _).trans (((qaz (p := ⟨qaR, _, none⟩) qbf.out _).trans (((qaz (p := ⟨qaR, _, none⟩) qbf.out _).trans (((qaz (p := ⟨qaR, _, none⟩) qbf.out _).trans (((qaz (p := ⟨qaR, _, none⟩) qbf.out _).trans (hHeld.2.2.2.2.2.2.2.2.2.1)))))))))))), ((qaz (p := ⟨qaR, _, none⟩) qbf.out _).trans (((qaz (p := ⟨qaR, _, none⟩) qbf.out _).trans (((qaz (p := ⟨qaR, _, none⟩) qbf.out _).trans (((qaz (p := ⟨qaR, _, none⟩) qbf.out _).trans (((qaz (p := ⟨qaR, _, none⟩) qbf.out _).trans (((qaz (p := ⟨qaR, _, none⟩) qbf.out _).trans (hHeld.2.2.2.2.2.2.2.2.2.2.1)))))))))))), ((qaz (p := ⟨qaR, _, none⟩) (by first | exact Nat.ne_of_lt (Nat.lt_of_lt_of_le (by have := World.block_lt_of_cell? _ _ qcs; first | rwa [qay] at this | exact this) qci.out) | (rw [qay]; exact Nat.ne_of_lt (Nat.lt_of_lt_of_le (by have := World.block_lt_of_cell? _ _ qcs; first | rwa [qay] at this | exact this) qci.out)) | (show (Addr.add _ _).block ≠ _; rw [qay]; exact Nat.ne_of_lt (Nat.lt_of_lt_of_le (by have := World.block_lt_of_cell? _ _ qcs; first | rwa [qay] at this | exact this) qci.out)) | (dsimp only; exact Nat.ne_of_lt (Nat.lt_of_lt_of_le (by have := World.block_lt_of_cell? _ _ qcs; first | rwa [qay] at this | exact this) qci.out))) _).trans (((qaz (p := ⟨qaR, _, none⟩) (by first | exact Nat.ne_of_lt (Nat.lt_of_lt_of_le (by have := World.block_lt_of_cell? _ _ qcs; first | rwa [qay] at this | exact this) qci.out) | (rw [qay]; exact Nat.ne_of_lt (Nat.lt_of_lt_of_le (by have := World.block_lt_of_cell? _ _ qcs; first | rwa [qay] at this | exact this) qci.out)) | (show (Addr.add _ _).block ≠ _; rw [qay]; exact Nat.ne_of_lt (Nat.lt_of_lt_of_le (by have := World.block_lt_of_cell? _ _ qcs; first | rwa [qay] at this | exact this) qci.out)) | (dsimp only; exact Nat.ne_of_lt (Nat.lt_of_lt_of_le (by have := World.block_lt_of_cell? _ _ qcs; first | rwa [qay] at this | exact this) qci.out))) _).trans (((qaz (p := ⟨qaR, _, none⟩) (by first | exact Nat.ne_of_lt (Nat.lt_of_lt_of_le (by have := World.block_lt_of_cell? _ _ qcs; first | rwa [qay] at this | exact this) qci.out) | (rw [qay]; exact Nat.ne_of_lt (Nat.lt_of_lt_of_le (by have := World.block_lt_of_cell? _ _ qcs; first | rwa [qay] at this | exact this) qci.out)) | (show (Addr.add _ _).block ≠ _; rw [qay]; exact Nat.ne_of_lt (Nat.lt_of_lt_of_le (by have := World.block_lt_of_cell? _ _ qcs; first | rwa [qay] at this | exact this) qci.out)) | (dsimp only; exact Nat.ne_of_lt (Nat.lt_of_lt_of_le (by have := World.block_lt_of_cell? _ _ qcs; first | rwa [qay] at this | exact this) qci.out))) _).trans (((qaz (p := ⟨qaR, _, none⟩) (by first | exact Nat.ne_of_lt (Nat.lt_of_lt_of_le (by have := World.block_lt_of_cell? _ _ qcs; first | rwa [qay] at this | exact this) qci.out) | (rw [qay]; exact Nat.ne_of_lt (Nat.lt_of_lt_of_le (by have := World.block_lt_of_cell? _ _ qcs; first | rwa [qay] at this | exact this) qci.out)) | (show (Addr.add _ _).block ≠ _; rw [qay]; exact Nat.ne_of_lt (Nat.lt_of_lt_of_le (by have := World.block_lt_of_cell? _ _ qcs; first | rwa [qay] at this | exact this) qci.out)) | (dsimp only; exact Nat.ne_of_lt (Nat.lt_of_lt_of_le (by have := World.block_lt_of_cell? _ _ qcs; first | rwa [qay] at this | exact this) qci.out))) _).trans (((qaz (p := ⟨qaR, _, none⟩) (by first | exact Nat.ne_of_lt (Nat.lt_of_lt_of_le (by have := World.block_lt_of_cell? _ _ qcs; first | rwa [qay] at this | exact this) qci.out) | (rw [qay]; exact Nat.ne_of_lt (Nat.lt_of_lt_of_le (by have := World.block_lt_of_cell? _ _ qcs; first | rwa [qay] at this | exact this) qci.out)) | (show (Addr.add _ _).block ≠ _; rw [qay]; exact Nat.ne_of_lt (Nat.lt_of_lt_of_le (by have := World.block_lt_of_cell? _ _ qcs; first | rwa [qay] at this | exact this) qci.out)) | (dsimp only; exact Nat.ne_of_lt (Nat.lt_of_lt_of_le (by have := World.block_lt_of_cell? _ _ qcs; first | rwa [qay] at this | exact this) qci.out))) _).trans (((qaz (p := ⟨qaR, _, none⟩) (by first | exact Nat.ne_of_lt (Nat.lt_of_lt_of_le (by have := World.block_lt_of_cell? _ _ qcs; first | rwa [qay] at this | exact this) qci.out) | (rw [qay]; exact Nat.ne_of_lt (Nat.lt_of_lt_of_le (by have := World.block_lt_of_cell? _ _ qcs; first | rwa [qay] at this | exact this) qci.out)) | (show (Addr.add _ _).block ≠ _; rw [qay]; exact Nat.ne_of_lt (Nat.lt_of_lt_of_le (by have := World.block_lt_of_cell? _ _ qcs; first | rwa [qay] at this | exact this) qci.out)) | (dsimp only; exact Nat.ne_of_lt (Nat.lt_of_lt_of_le (by have := World.block_lt_of_cell? _ _ qcs; first | rwa [qay] at this | exact this) qci.out))) _).trans (hHeld.2.2.2.2.2.2.2.2.2.2.2.1)))))))))))), ((qaz (p := ⟨qaR, _, none⟩) (by first | exact Nat.ne_of_lt (Nat.lt_of_lt_of_le (by have := World.block_lt_of_cell? _ _ qct; first | rwa [qay] at this | exact this) qci.out) | (rw [qay]; exact Nat.ne_of_lt (Nat.lt_of_lt_of_le (by have := World.block_lt_of_cell? _ _ qct; first | rwa [qay] at this | exact this) qci.out)) | (show (Addr.add _ _).block ≠ _; rw [qay]; exact Nat.ne_of_lt (Nat.lt_of_lt_of_le (by have := World.block_lt_of_cell? _ _ qct; first | rwa [qay] at this | exact this) qci.out)) | (dsimp only; exact Nat.ne_of_lt (Nat.lt_of_lt_of_le (by have := World.block_lt_of_cell? _ _ qct; first | rwa [qay] at this | exact this) qci.out))) _).trans (((qaz (p := ⟨qaR, _, none⟩) (by first | exact Nat.ne_of_lt (Nat.lt_of_lt_of_le (by have := World.block_lt_of_cell? _ _ qct; first | rwa [qay] at this | exact this) qci.out) | (rw [qay]; exact Nat.ne_of_lt (Nat.lt_of_lt_of_le (by have := World.block_lt_of_cell? _ _ qct; first | rwa [qay] at this | exact this) qci.out)) | (show (Addr.add _ _).block ≠ _; rw [qay]; exact Nat.ne_of_lt (Nat.lt_of_lt_of_le (by have := World.block_lt_of_cell? _ _ qct; first | rwa [qay] at this | exact this) qci.out)) | (dsimp only; exact Nat.ne_of_lt (Nat.lt_of_lt_of_le (by have := World.block_lt_of_cell? _ _ qct; first | rwa [qay] at this | exact this) qci.out))) _).trans (((qaz (p := ⟨qaR, _, none⟩) (by first | exact Nat.ne_of_lt (Nat.lt_of_lt_of_le (by have := World.block_lt_of_cell? _ _ qct; first | rwa [qay] at this | exact this) qci.out) | (rw [qay]; exact Nat.ne_of_lt (Nat.lt_of_lt_of_le (by have := World.block_lt_of_cell? _ _ qct; first | rwa [qay] at this | exact this) qci.out)) | (show (Addr.add _ _).block ≠ _; rw [qay]; exact Nat.ne_of_lt (Nat.lt_of_lt_of_le (by have := World.block_lt_of_cell? _ _ qct; first | rwa [qay] at this | exact this) qci.out)) | (dsimp only; exact Nat.ne_of_lt (Nat.lt_of_lt_of_le (by have := World.block_lt_of_cell? _ _ qct; first | rwa [qay] at this | exact this) qci.out))) _).trans (((qaz (p := ⟨qaR, _, none⟩) (by first | exact Nat.ne_of_lt (Nat.lt_of_lt_of_le (by have := World.block_lt_of_cell? _ _ qct; first | rwa [qay] at this | exact this) qci.out) | (rw [qay]; exact Nat.ne_of_lt (Nat.lt_of_lt_of_le (by have := World.block_lt_of_cell? _ _ qct; first | rwa [qay] at this | exact this) qci.out)) | (show (Addr.add _ _).block ≠ _; rw [qay]; exact Nat.ne_of_lt (Nat.lt_of_lt_of_le (by have := World.block_lt_of_cell? _ _ qct; first | rwa [qay] at this | exact this) qci.out)) | (dsimp only; exact Nat.ne_of_lt (Nat.lt_of_lt_of_le (by have := World.block_lt_of_cell? _ _ qct; first | rwa [qay] at this | exact this) qci.out))) _).trans (((qaz (p := ⟨qaR, _, none⟩) (by first | exact Nat.ne_of_lt (Nat.lt_of_lt_of_le (by have := World.block_lt_of_cell? _ _ qct; first | rwa [qay] at this | exact this) qci.out) | (rw [qay]; exact Nat.ne_of_lt (Nat.lt_of_lt_of_le (by have := World.block_lt_of_cell? _ _ qct; first | rwa [qay] at this | exact this) qci.out)) | (show (Addr.add _ _).block ≠ _; rw [qay]; exact Nat.ne_of_lt (Nat.lt_of_lt_of_le (by have := World.block_lt_of_cell? _ _ qct; first | rwa [qay] at this | exact this) qci.out)) | (dsimp only; exact Nat.ne_of_lt (Nat.lt_of_lt_of_le (by have := World.block_lt_of_cell? _ _ qct; first | rwa [qay] at this | exact this) qci.out))) _).trans (((qaz (p := ⟨qaR, _, none⟩) (by first | exact Nat.ne_of_lt (Nat.lt_of_lt_of_le (by have := World.block_lt_of_cell? _ _ qct; first | rwa [qay] at this | exact this) qci.out) | (rw [qay]; exact Nat.ne_of_lt (Nat.lt_of_lt_of_le (by have := World.block_lt_of_cell? _ _ qct; first | rwa [qay] at this | exact this) qci.out)) | (show (Addr.add _ _).block ≠ _; rw [qay]; exact Nat.ne_of_lt (Nat.lt_of_lt_of_le (by have := World.block_lt_of_cell? _ _ qct; first | rwa [qay] at this | exact this) qci.out)) | (dsimp only; exact Nat.ne_of_lt (Nat.lt_of_lt_of_le (by have := World.block_lt_of_cell? _ _ qct; first | rwa [qay] at this | exact this) qci.out))) _).trans (hHeld.2.2.2.2.2.2.2.2.2.2.2.2))))))))))))⟩ (fun hHeld => ?_); clear hK K; refine qgo (qe9 HT_.out (by kernel_rfl)) ?_
           try go_wp2
           have n0_ : qaa (Kd.R (Kd.int .i64) 3 ((((((w50.setCell ⟨qaR, 0, none⟩ (.int .i64 t172)).setCell ⟨qaR, 1, none⟩ (.int .i64 t173)).setCell ⟨qaR, 2, none⟩ (.int .i64 t174)).setCell ⟨qaR, 3, none⟩ (.int .i64 t175)).setCell ⟨qaR, 4, none⟩ (.int .i64 t176)).setCell ⟨qaR, 5, none⟩ (.int .i64 t177)) w.heap.size (fun k_ => (w.heap.size ≤ k_)) u13 qd6) := ⟨by (with_reducible repeat (first | apply Kd.R_alloc | apply Kd.R_drewN | apply Kd.R_drew)); exact Kd.R_mono (Kd.R_far (p := ⟨qaR, 5, none⟩) (Kd.R_far (p := ⟨qaR, 4, none⟩) (Kd.R_far (p := ⟨qaR, 3, none⟩) (Kd.R_far (p := ⟨qaR, 2, none⟩) (Kd.R_far (p := ⟨qaR, 1, none⟩) (Kd.R_far (p := ⟨qaR, 0, none⟩) (Kd.R_types HO_13.out qcp.out (by decide)) (fun _ hk => hk.2) (.int .i64 t172)) (fun _ hk => hk.2) (.int .i64 t173)) (fun _ hk => hk.2) (.int .i64 t174)) (fun _ hk => hk.2) (.int .i64 t175)) (fun _ hk => hk.2) (.int .i64 t176)) (fun _ hk => hk.2) (.int .i64 t177)) (fun _ hk => hk.1)⟩; have n1_ : qaa (((((((w50.setCell ⟨qaR, 0, none⟩ (.int .i64 t172)).setCell ⟨qaR, 1, none⟩ (.int .i64 t173)).setCell ⟨qaR, 2, none⟩ (.int .i64 t174)).setCell ⟨qaR, 3, none⟩ (.int .i64 t175)).setCell ⟨qaR, 4, none⟩ (.int .i64 t176)).setCell ⟨qaR, 5, none⟩ (.int .i64 t177)).heap[qcI]? = some (.cells #[.slice A0_0 l0_0.length c0_0, .slice A0_1 l0_1.length c0_1, .slice A0_2 l0_2.length c0_2, .int .i64 a0_3, .int .i64 a0_4] 39 (0, 0))) := ⟨by (with_reducible repeat (first | refine qac ?_ _ | refine qae ?_ | refine qab ?_ _)); refine qau ?_ qdD.out _; (with_reducible repeat (first | refine qac ?_ _ | refine qae ?_ | refine qab ?_ _)); refine qau ?_ qdD.out _; (with_reducible repeat (first | refine qac ?_ _ | refine qae ?_ | refine qab ?_ _)); refine qau ?_ qdD.out _; (with_reducible repeat (first | refine qac ?_ _ | refine qae ?_ | refine qab ?_ _)); refine qau ?_ qdD.out _; (with_reducible repeat (first | refine qac ?_ _ | refine qae ?_ | refine qab ?_ _)); refine qau ?_ qdD.out _; (with_reducible repeat (first | refine qac ?_ _ | refine qae ?_ | refine qab ?_ _)); refine qau ?_ qdD.out _; (with_reducible repeat (first | refine qac ?_ _ | refine qae ?_ | refine qab ?_ _)); exact qbw.out⟩; have n2_ : qaa (((((((w50.setCell ⟨qaR, 0, none⟩ (.int .i64 t172)).setCell ⟨qaR, 1, none⟩ (.int .i64 t173)).setCell ⟨qaR, 2, none⟩ (.int .i64 t174)).setCell ⟨qaR, 3, none⟩ (.int .i64 t175)).setCell ⟨qaR, 4, none⟩ (.int .i64 t176)).setCell ⟨qaR, 5, none⟩ (.int .i64 t177)).heap[qbE]? = some (.cells #[.slice A0_0 l0_0.length c0_0, .slice A0_1 l0_1.length c0_1, .slice A0_2 l0_2.length c0_2, .int .i64 a0_3, .int .i64 a0_4] 111 (0, 0))) := ⟨by (with_reducible repeat (first | refine qac ?_ _ | refine qae ?_ | refine qab ?_ _)); refine qau ?_ qbu.out _; (with_reducible repeat (first | refine qac ?_ _ | refine qae ?_ | refine qab ?_ _)); refine qau ?_ qbu.out _; (with_reducible repeat (first | refine qac ?_ _ | refine qae ?_ | refine qab ?_ _)); refine qau ?_ qbu.out _; (with_reducible repeat (first | refine qac ?_ _ | refine qae ?_ | refine qab ?_ _)); refine qau ?_ qbu.out _; (with_reducible repeat (first | refine qac ?_ _ | refine qae ?_ | refine qab ?_ _)); refine qau ?_ qbu.out _; (with_reducible repeat (first | refine qac ?_ _ | refine qae ?_ | refine qab ?_ _)); refine qau ?_ qbu.out _; (with_reducible repeat (first | refine qac ?_ _ | refine qae ?_ | refine qab ?_ _)); exact qaX.out⟩; have n3_ : qaa (((((((w50.setCell ⟨qaR, 0, none⟩ (.int .i64 t172)).setCell ⟨qaR, 1, none⟩ (.int .i64 t173)).setCell ⟨qaR, 2, none⟩ (.int .i64 t174)).setCell ⟨qaR, 3, none⟩ (.int .i64 t175)).setCell ⟨qaR, 4, none⟩ (.int .i64 t176)).setCell ⟨qaR, 5, none⟩ (.int .i64 t177)).heap[qbj]? = some (.cells #[.int .i64 qcJ, .int .i64 qcC, .int .i64 qcw, .int .i64 qco, .int .i64 qcm, .int .i64 qcf] 115 (0, 0))) := ⟨by (with_reducible repeat (first | refine qac ?_ _ | refine qae ?_ | refine qab ?_ _)); refine qau ?_ qbf.out _; (with_reducible repeat (first | refine qac ?_ _ | refine qae ?_ | refine qab ?_ _)); refine qau ?_ qbf.out _; (with_reducible repeat (first | refine qac ?_ _ | refine qae ?_ | refine qab ?_ _)); refine qau ?_ qbf.out _; (with_reducible repeat (first | refine qac ?_ _ | refine qae ?_ | refine qab ?_ _)); refine qau ?_ qbf.out _; (with_reducible repeat (first | refine qac ?_ _ | refine qae ?_ | refine qab ?_ _)); refine qau ?_ qbf.out _; (with_reducible repeat (first | refine qac ?_ _ | refine qae ?_ | refine qab ?_ _)); refine qau ?_ qbf.out _; (with_reducible repeat (first | refine qac ?_ _ | refine qae ?_ | refine qab ?_ _)); exact qbo.out⟩; have n4_ : qaa (((((((w50.setCell ⟨qaR, 0, none⟩ (.int .i64 t172)).setCell ⟨qaR, 1, none⟩ (.int .i64 t173)).setCell ⟨qaR, 2, none⟩ (.int .i64 t174)).setCell ⟨qaR, 3, none⟩ (.int .i64 t175)).setCell ⟨qaR, 4, none⟩ (.int .i64 t176)).setCell ⟨qaR, 5, none⟩ (.int .i64 t177)).heap[qaR]? = some (.cells #[.int .i64 t172, .int .i64 t173, .int .i64 t174, .int .i64 t175, .int .i64 t176, .int .i64 t177] 115 (0, 0))) := ⟨by (with_reducible repeat (first | refine qac ?_ _ | refine qae ?_ | refine qab ?_ _)); refine qaH (cs := #[.int .i64 t172, .int .i64 t173, .int .i64 t174, .int .i64 t175, .int .i64 t176, .int .i64 0]) ?_ 5 _ rfl; (with_reducible repeat (first | refine qac ?_ _ | refine qae ?_ | refine qab ?_ _)); refine qaH (cs := #[.int .i64 t172, .int .i64 t173, .int .i64 t174, .int .i64 t175, .int .i64 0, .int .i64 0]) ?_ 4 _ rfl; (with_reducible repeat (first | refine qac ?_ _ | refine qae ?_ | refine qab ?_ _)); refine qaH (cs := #[.int .i64 t172, .int .i64 t173, .int .i64 t174, .int .i64 0, .int .i64 0, .int .i64 0]) ?_ 3 _ rfl; (with_reducible repeat (first | refine qac ?_ _ | refine qae ?_ | refine qab ?_ _)); refine qaH (cs := #[.int .i64 t172, .int .i64 t173, .int .i64 0, .int .i64 0, .int .i64 0, .int .i64 0]) ?_ 2 _ rfl; (with_reducible repeat (first | refine qac ?_ _ | refine qae ?_ | refine qab ?_ _)); refine qaH (cs := #[.int .i64 t172, .int .i64 0, .int .i64 0, .int .i64 0, .int .i64 0, .int .i64 0]) ?_ 1 _ rfl; (with_reducible repeat (first | refine qac ?_ _ | refine qae ?_ | refine qab ?_ _)); refine qaH (cs := #[.int .i64 0, .int .i64 0, .int .i64 0, .int .i64 0, .int .i64 0, .int .i64 0]) ?_ 0 _ rfl; (with_reducible repeat (first | refine qac ?_ _ | refine qae ?_ | refine qab ?_ _)); exact qcp.out⟩; have n5_ : qaa (Below w.heap.size w ((((((w50.setCell ⟨qaR, 0, none⟩ (.int .i64 t172)).setCell ⟨qaR, 1, none⟩ (.int .i64 t173)).setCell ⟨qaR, 2, none⟩ (.int .i64 t174)).setCell ⟨qaR, 3, none⟩ (.int .i64 t175)).setCell ⟨qaR, 4, none⟩ (.int .i64 t176)).setCell ⟨qaR, 5, none⟩ (.int .i64 t177))) := ⟨by repeat (first | (with_reducible first | exact HB.out | apply qag | apply qad | apply qah | refine qaf ?_ qcF.out | refine qaf ?_ qcQ.out | refine qaf ?_ qfn.out | refine qaf ?_ qgN.out) | exact HB.out)⟩
           (try clear HO_13)
           (try clear qbw)
           (try clear qaX)
           (try clear qbo)
           (try clear qcp)
           (try clear HB)
           generalize ((((((w50.setCell ⟨qaR, 0, none⟩ (.int .i64 t172)).setCell ⟨qaR, 1, none⟩ (.int .i64 t173)).setCell ⟨qaR, 2, none⟩ (.int .i64 t174)).setCell ⟨qaR, 3, none⟩ (.int .i64 t175)).setCell ⟨qaR, 4, none⟩ (.int .i64 t176)).setCell ⟨qaR, 5, none⟩ (.int .i64 t177)) = w57 at n0_ n1_ n2_ n3_ n4_ n5_ ⊢
           have HO_13 := n0_; have qbw := n1_; have qaX := n2_; have qbo := n3_; have qcp := n4_; have HB := n5_; clear n0_ n1_ n2_ n3_ n4_ n5_; have n0_ := qaa.mk (Kd.R_drew HO_13.out); have n1_ := qaa.mk (qae qbw.out); have n2_ := qaa.mk (qae qaX.out); have n3_ := qaa.mk (qae qbo.out); have n4_ := qaa.mk (qae qcp.out); have n5_ := qaa.mk (qah HB.out); clear HO_13 qbw qaX qbo qcp HB; have HO_13 := n0_; have qbw := n1_; have qaX := n2_; have qbo := n3_; have qcp := n4_; have HB := n5_; clear n0_ n1_ n2_ n3_ n4_ n5_; refine qfM (n := 7) (S := fun w' => w'.cell? ⟨qaR, 0, none⟩ = some (.int .i64 t172) ∧ w'.cell? ⟨qaR, 1, none⟩ = some (.int .i64 t173) ∧ w'.cell? ⟨qaR, 2, none⟩ = some (.int .i64 t174) ∧ w'.cell? ⟨qaR, 3, none⟩ = some (.int .i64 t175) ∧ w'.cell? ⟨qaR, 4, none⟩ = some (.int .i64 t176) ∧ w'.cell? ⟨qaR, 5, none⟩ = some (.int .i64 t177)) (ds := []) (qas 7 0) (by kernel_rfl) rfl rfl ⟨(qai qcp.out 0).trans rfl, (qai qcp.out 1).trans rfl, (qai qcp.out 2).trans rfl, (qai qcp.out 3).trans rfl, (qai qcp.out 4).trans rfl, (qai qcp.out 5).trans rfl⟩ (fun hHeld => ?_)
           generalize w57.drew = w58 at HO_13 qbw qaX qbo qcp HB hHeld ⊢
           refine qnJ (i := 0) (N := some 78) (v := ?_) (a' := ?_) (qas 7 1) rfl rfl (by kernel_rfl) (fun _ _ _ h => h) (Or.inl ⟨by rfl, ?_⟩) ?_ ?_; rotate_left
           · intro w'; go_simp; with_reducible rfl
           rotate_left
           · simp only [qaq, qam, qap, qao, qan, qaB, qaC]; rfl
           refine qnJ (i := 1) (N := some 79) (v := ?_) (a' := ?_) (qas 7 3) rfl rfl (by kernel_rfl) (fun _ _ _ h => h) (Or.inl ⟨by rfl, ?_⟩) ?_ ?_; rotate_left
           · intro w'; go_simp; with_reducible rfl
           rotate_left
           · simp only [qaq, qam, qap, qao, qan, qaB, qaC]; rfl
           refine qrG (i := 4) (N := some 82) (v := ?_) (a' := ?_) (qas 7 19) rfl rfl (by kernel_rfl) (fun _ _ _ h => h) (Or.inl ⟨by rfl, ?_⟩) hHeld ?_ ?_; rotate_left
           · rintro w' ⟨s0, s1, s2, s3, s4, s5⟩; go_simp; with_reducible rfl
           rotate_left
           · simp only [qaq, qam, qap, qao, qan, qaB, qaC]; rfl
           refine one_ (i := 2) (N := some 80) (qas 7 23) rfl rfl (by kernel_rfl) (by decide) (fun K hK => ?_); refine qor (w1 := ?_) (v := ?_) (by rfl) rfl ?_ ?_
           rotate_left 2
           ·
            go_simp
            constructor
            · rfl
            rfl
           refine hK.out _ _ ⟨(qai (qab qcp.out _) 0).trans rfl, (qai (qab qcp.out _) 1).trans rfl, (qai (qab qcp.out _) 2).trans rfl, (qai (qab qcp.out _) 3).trans rfl, (qai (qab qcp.out _) 4).trans rfl, (qai (qab qcp.out _) 5).trans rfl⟩ (fun hHeld => ?_); clear hK K; refine qcX (a' := ?_) ?_ ?_; rotate_left
           ·
            show Act.put _ (some 80) _ = _
            simp only [qaq, qam, qap, qao, qan, qaB, qaC]; rfl
           refine one_ (i := 3) (N := some 81) (qas 7 31) rfl rfl (by kernel_rfl) (by decide) (fun K hK => ?_); refine Kd.R_append_step (Kd.int .i64) (w0 := w) w.heap.size (by rfl) (.tmp 78) (.tmp 80) 37 3 (.int .i64 0) 8 rfl Try.underlying37 qi3 rfl (by decide) (by omega) u13 qd6 t171 [.int .i64 t171] (fun k_ => (w.heap.size ≤ k_)) (fun _ => False) rfl rfl ?aP (fun _ hk => hk.elim) ?aF ?aO ?aB ?aS ?aL ?_
           (case aP => exact rfl)
           (case aB => exact (by repeat (first | (with_reducible first | exact HB.out | apply qag | apply qad | apply qah | refine qaf ?_ qcF.out | refine qaf ?_ qcQ.out | refine qaf ?_ qfn.out | refine qaf ?_ qgN.out) | exact HB.out)))
           (case aF => exact (fun k_ hk => (Nat.le_trans (qav (by repeat (first | (with_reducible first | exact HB.out | apply qag | apply qad | apply qah | refine qaf ?_ qcF.out | refine qaf ?_ qcQ.out | refine qaf ?_ qfn.out | refine qaf ?_ qgN.out) | exact HB.out))) hk)))
           (case aO => exact (by (with_reducible repeat (first | apply Kd.R_alloc | apply Kd.R_drewN | apply Kd.R_drew)); exact HO_13.out))
           (case aS => exact (qav (by repeat (first | (with_reducible first | exact HB.out | apply qag | apply qad | apply qah | refine qaf ?_ qcF.out | refine qaf ?_ qcQ.out | refine qaf ?_ qfn.out | refine qaf ?_ qgN.out) | exact HB.out))))
           (case aL => have := qub.out; omega)
           intro v180 w59 ho hb hg hat; rw [← quc.out] at ho; have n0_ := qaa.mk (qej (g := qcI) (o := .cells #[.slice A0_0 l0_0.length c0_0, .slice A0_1 l0_1.length c0_1, .slice A0_2 l0_2.length c0_2, .int .i64 a0_3, .int .i64 a0_4] 39 (0, 0)) (by (with_reducible repeat (first | refine qac ?_ _ | refine qae ?_ | refine qab ?_ _)); exact qbw.out) hg (Kd.R_ne HO_13.out qbw.out (by decide))); have n1_ := qaa.mk (qej (g := qbE) (o := .cells #[.slice A0_0 l0_0.length c0_0, .slice A0_1 l0_1.length c0_1, .slice A0_2 l0_2.length c0_2, .int .i64 a0_3, .int .i64 a0_4] 111 (0, 0)) (by (with_reducible repeat (first | refine qac ?_ _ | refine qae ?_ | refine qab ?_ _)); exact qaX.out) hg (Kd.R_ne HO_13.out qaX.out (by decide))); have n2_ := qaa.mk (qej (g := qbj) (o := .cells #[.int .i64 qcJ, .int .i64 qcC, .int .i64 qcw, .int .i64 qco, .int .i64 qcm, .int .i64 qcf] 115 (0, 0)) (by (with_reducible repeat (first | refine qac ?_ _ | refine qae ?_ | refine qab ?_ _)); exact qbo.out) hg (Kd.R_ne HO_13.out qbo.out (by decide))); have n3_ := qaa.mk (qej (g := qaR) (o := .cells #[.int .i64 t172, .int .i64 t173, .int .i64 t174, .int .i64 t175, .int .i64 t176, .int .i64 t177] 115 (0, 0)) (by (with_reducible repeat (first | refine qac ?_ _ | refine qae ?_ | refine qab ?_ _)); exact qcp.out) hg (Kd.R_ne HO_13.out qcp.out (by decide))); have n4_ := qaa.mk (hb); have n5_ := qaa.mk (ho); clear qbw qaX qbo qcp HB HO_13; have qbw := n0_; have qaX := n1_; have qbo := n2_; have qcp := n3_; have HB := n4_; have qt4 := n5_; clear n0_ n1_ n2_ n3_ n4_ n5_ ho hb hg hat; refine hK.out _ _ ⟨(qai qcp.out 0).trans rfl, (qai qcp.out 1).trans rfl, (qai qcp.out 2).trans rfl, (qai qcp.out 3).trans rfl, (qai qcp.out 4).trans rfl, (qai qcp.out 5).trans rfl⟩ (fun hHeld => ?_); clear hK K; refine qcX (a' := ?_) ?_ ?_; rotate_left
           ·
            show Act.put _ (some 81) _ = _
            simp only [qaq, qam, qap, qao, qan, qaB, qaC]; rfl
           refine qnJ (i := 5) (N := some 13) (v := ?_) (a' := ?_) (qas 7 63) rfl rfl (by kernel_rfl) (fun _ _ _ h => h) (Or.inl ⟨by rfl, ?_⟩) ?_ ?_; rotate_left
           · intro w'; go_simp; with_reducible rfl
           rotate_left
           · simp only [qaq, qam, qap, qao, qan, qaB, qaC]; rfl
           refine one_ (i := 6) (N := none) (qas 7 127) rfl rfl (by kernel_rfl) (by decide) (fun K hK => ?_); have hs60 : w59.cell? ⟨qbj, 0, none⟩ = some (.int .i64 qcJ) := (qai qbo.out 0).trans rfl; have qC6 := qaj qbo.out 0; have qBy := qdh.out; have qBz := qdi.out; have qBA := qbl.out; have qAM := qf6.out; have qAN := qf7.out; have qAO := qbf.out; have hs61 : w59.cell? ⟨qbj, 1, none⟩ = some (.int .i64 qcC) := (qai qbo.out 1).trans rfl; have qC7 := qaj qbo.out 1; have qBB := qdh.out; have qBC := qdi.out; have qBD := qbl.out; have qAP := qf6.out; have qAQ := qf7.out; have qAR := qbf.out; have hs62 : w59.cell? ⟨qbj, 2, none⟩ = some (.int .i64 qcw) := (qai qbo.out 2).trans rfl; have qC8 := qaj qbo.out 2; have qBE := qdh.out; have qBF := qdi.out; have qBG := qbl.out; have qAS := qf6.out; have qAT := qf7.out; have qAU := qbf.out; have hs63 : w59.cell? ⟨qbj, 3, none⟩ = some (.int .i64 qco) := (qai qbo.out 3).trans rfl; have qC9 := qaj qbo.out 3; have qBH := qdh.out; have qBI := qdi.out; have qBJ := qbl.out; have qAV := qf6.out; have qAW := qf7.out; have qAX := qbf.out; have hs64 : w59.cell? ⟨qbj, 4, none⟩ = some (.int .i64 qcm) := (qai qbo.out 4).trans rfl; have qDa := qaj qbo.out 4; have qBK := qdh.out; have qBL := qdi.out; have qBM := qbl.out; have qAY := qf6.out; have qAZ := qf7.out; have qA0 := qbf.out; have hs65 : w59.cell? ⟨qbj, 5, none⟩ = some (.int .i64 qcf) := (qai qbo.out 5).trans rfl; have qDb := qaj qbo.out 5; have qBN := qdh.out; have qBO := qdi.out; have qBP := qbl.out; have qA1 := qf6.out; have qA2 := qf7.out; have qA3 := qbf.out; refine qpM (w1 := ?_) (by rfl) rfl ?_ ?_; rotate_left
           ·
            go_simp; rfl
           refine hK.out _ _ ⟨((qaz (p := ⟨qbj, _, none⟩) qbl.out _).trans (((qaz (p := ⟨qbj, _, none⟩) qbl.out _).trans (((qaz (p := ⟨qbj, _, none⟩) qbl.out _).trans (((qaz (p := ⟨qbj, _, none⟩) qbl.out _).trans (((qaz (p := ⟨qbj, _, none⟩) qbl.out _).trans (((qaz (p := ⟨qbj, _, none⟩) qbl.out _).trans (hHeld.1)))))))))))), ((qaz (p := ⟨qbj, _, none⟩) qbl.out _).trans (((qaz (p := ⟨qbj, _, none⟩) qbl.out _).trans (((qaz (p := ⟨qbj, _, none⟩) qbl.out _).trans (((qaz (p := ⟨qbj, _, none⟩) qbl.out _).trans (((qaz (p := ⟨qbj, _, none⟩) qbl.out _).trans (((qaz (p := ⟨qbj, _, none⟩) qbl.out _).trans (hHeld.2.1)))))))))))), ((qaz (p := ⟨qbj, _, none⟩) qbl.out _).trans (((qaz (p := ⟨qbj, _, none⟩) qbl.out _).trans (((qaz (p := ⟨qbj, _, none⟩) qbl.out _).trans (((qaz (p := ⟨qbj, _, none⟩) qbl.out _).trans (((qaz (p := ⟨qbj, _, none⟩) qbl.out _).trans (((qaz (p := ⟨qbj, _, none⟩) qbl.out _).trans (hHeld.2.2.1)))))))))))), ((qaz (p := ⟨qbj, _, none⟩) qbl.out _).trans (((qaz (p := ⟨qbj, _, none⟩) qbl.out _).trans (((qaz (p := ⟨qbj, _, none⟩) qbl.out _).trans (((qaz (p := ⟨qbj, _, none⟩) qbl.out _).trans (((qaz (p := ⟨qbj, _, none⟩) qbl.out _).trans (((qaz (p := ⟨qbj, _, none⟩) qbl.out _).trans (hHeld.2.2.2.1)))))))))))), ((qaz (p := ⟨qbj, _, none⟩) qbl.out _).trans (((qaz (p := ⟨qbj, _, none⟩) qbl.out _).trans (((qaz (p := ⟨qbj, _, none⟩) qbl.out _).trans (((qaz (p := ⟨qbj, _, none⟩) qbl.out _).trans (((qaz (p := ⟨qbj, _, none⟩) qbl.out _).trans (((qaz (p := ⟨qbj, _, none⟩) qbl.out _).trans (hHeld.2.2.2.2.1)))))))))))), ((qaz (p := ⟨qbj, _, none⟩) qbl.out _).trans (((qaz (p := ⟨qbj, _, none⟩) qbl.out _).trans (((qaz (p := ⟨qbj, _, none⟩) qbl.out _).trans (((qaz (p := ⟨qbj, _, none⟩) qbl.out _).trans (((qaz (p := ⟨qbj, _, none⟩) qbl.out _).trans (((qaz (p := ⟨qbj, _, none⟩) qbl.out _).trans (hHeld.2.2.2.2.2))))))))))))⟩ (fun hHeld => ?_); clear hK K; refine qgo (by kernel_rfl) ?_
           try go_wp2
           go_roundg k4
           case measure => have := HJ3.out; have := HK2.out; have := HJ22.out; have := HK4.out; omega
           case rel => exact ⟨(y179), (wrap64 (qcW + 1)), (t172), (t173), (t174), (t175), (t176), (t177), (by first | rfl | (simp; done) | (simp [*]; done)), H', ⟨by have := HJ3.out; have := HK2.out; have := HJ22.out; have := HK4.out; omega⟩, ⟨by (with_reducible repeat (first | apply Kd.R_alloc | apply Kd.R_drewN | apply Kd.R_drew)); exact Kd.R_mono (Kd.R_far (p := ⟨qbj, 5, none⟩) (Kd.R_far (p := ⟨qbj, 4, none⟩) (Kd.R_far (p := ⟨qbj, 3, none⟩) (Kd.R_far (p := ⟨qbj, 2, none⟩) (Kd.R_far (p := ⟨qbj, 1, none⟩) (Kd.R_far (p := ⟨qbj, 0, none⟩) (Kd.R_types qt4.out qbo.out (by decide)) (fun _ hk => hk.2) (.int .i64 t172)) (fun _ hk => hk.2) (.int .i64 t173)) (fun _ hk => hk.2) (.int .i64 t174)) (fun _ hk => hk.2) (.int .i64 t175)) (fun _ hk => hk.2) (.int .i64 t176)) (fun _ hk => hk.2) (.int .i64 t177)) (fun _ hk => hk.1)⟩, ⟨by (with_reducible repeat (first | refine qac ?_ _ | refine qae ?_ | refine qab ?_ _)); refine qau ?_ qdh.out _; (with_reducible repeat (first | refine qac ?_ _ | refine qae ?_ | refine qab ?_ _)); refine qau ?_ qdh.out _; (with_reducible repeat (first | refine qac ?_ _ | refine qae ?_ | refine qab ?_ _)); refine qau ?_ qdh.out _; (with_reducible repeat (first | refine qac ?_ _ | refine qae ?_ | refine qab ?_ _)); refine qau ?_ qdh.out _; (with_reducible repeat (first | refine qac ?_ _ | refine qae ?_ | refine qab ?_ _)); refine qau ?_ qdh.out _; (with_reducible repeat (first | refine qac ?_ _ | refine qae ?_ | refine qab ?_ _)); refine qau ?_ qdh.out _; (with_reducible repeat (first | refine qac ?_ _ | refine qae ?_ | refine qab ?_ _)); exact qbw.out⟩, ⟨by (with_reducible repeat (first | refine qac ?_ _ | refine qae ?_ | refine qab ?_ _)); refine qau ?_ qdi.out _; (with_reducible repeat (first | refine qac ?_ _ | refine qae ?_ | refine qab ?_ _)); refine qau ?_ qdi.out _; (with_reducible repeat (first | refine qac ?_ _ | refine qae ?_ | refine qab ?_ _)); refine qau ?_ qdi.out _; (with_reducible repeat (first | refine qac ?_ _ | refine qae ?_ | refine qab ?_ _)); refine qau ?_ qdi.out _; (with_reducible repeat (first | refine qac ?_ _ | refine qae ?_ | refine qab ?_ _)); refine qau ?_ qdi.out _; (with_reducible repeat (first | refine qac ?_ _ | refine qae ?_ | refine qab ?_ _)); refine qau ?_ qdi.out _; (with_reducible repeat (first | refine qac ?_ _ | refine qae ?_ | refine qab ?_ _)); exact qaX.out⟩, ⟨by (with_reducible repeat (first | refine qac ?_ _ | refine qae ?_ | refine qab ?_ _)); refine qaH (cs := #[.int .i64 t172, .int .i64 t173, .int .i64 t174, .int .i64 t175, .int .i64 t176, .int .i64 qcf]) ?_ 5 _ rfl; (with_reducible repeat (first | refine qac ?_ _ | refine qae ?_ | refine qab ?_ _)); refine qaH (cs := #[.int .i64 t172, .int .i64 t173, .int .i64 t174, .int .i64 t175, .int .i64 qcm, .int .i64 qcf]) ?_ 4 _ rfl; (with_reducible repeat (first | refine qac ?_ _ | refine qae ?_ | refine qab ?_ _)); refine qaH (cs := #[.int .i64 t172, .int .i64 t173, .int .i64 t174, .int .i64 qco, .int .i64 qcm, .int .i64 qcf]) ?_ 3 _ rfl; (with_reducible repeat (first | refine qac ?_ _ | refine qae ?_ | refine qab ?_ _)); refine qaH (cs := #[.int .i64 t172, .int .i64 t173, .int .i64 qcw, .int .i64 qco, .int .i64 qcm, .int .i64 qcf]) ?_ 2 _ rfl; (with_reducible repeat (first | refine qac ?_ _ | refine qae ?_ | refine qab ?_ _)); refine qaH (cs := #[.int .i64 t172, .int .i64 qcC, .int .i64 qcw, .int .i64 qco, .int .i64 qcm, .int .i64 qcf]) ?_ 1 _ rfl; (with_reducible repeat (first | refine qac ?_ _ | refine qae ?_ | refine qab ?_ _)); refine qaH (cs := #[.int .i64 qcJ, .int .i64 qcC, .int .i64 qcw, .int .i64 qco, .int .i64 qcm, .int .i64 qcf]) ?_ 0 _ rfl; (with_reducible repeat (first | refine qac ?_ _ | refine qae ?_ | refine qab ?_ _)); exact qbo.out⟩, ⟨by repeat (first | (with_reducible first | exact HB.out | apply qag | apply qad | apply qah | refine qaf ?_ qcF.out | refine qaf ?_ qcQ.out | refine qaf ?_ qfn.out | refine qaf ?_ qgN.out) | exact HB.out)⟩⟩
          rw [if_neg c46] at H
          exact absurd H (by simp)
         rw [if_neg c44] at H
         exact absurd H (by simp)
        rw [if_neg c43] at H
        exact absurd H (by simp)
       rw [if_neg c42] at H
       exact absurd H (by simp)
      rw [if_neg c41] at H; have c41b0 : decide (qcW < (l1.length : Int)) = false := decide_eq_false c41; clear c41
      by_cases c66 : 0 ≤ (qd6.length : Int)
      ·
       rw [if_pos c66] at H; have c66b0 := eq_true c66; have c66b1 : decide (0 ≤ (qd6.length : Int)) = true := decide_eq_true c66; clear c66
       by_cases c67 : (qd6.length : Int) ≤ (qd6.length : Int)
       ·
        rw [if_pos c67] at H; have c67b0 := eq_true c67; have c67b1 : decide ((qd6.length : Int) ≤ (qd6.length : Int)) = true := decide_eq_true c67; clear c67; obtain ⟨y182, qlO⟩ : ∃ y_ : List Int, y_ = (qd6.take ((qd6.length : Int) : Int).toNat) := ⟨_, rfl⟩
        replace H : (some (y182, 0)) = some (r1, r2) := by first | (rw [qlO]; with_reducible exact H) | (have H2_ := (Option.bind_some _ _).symm.trans H; rw [qlO]; with_reducible exact H2_) | (have H2_ := (Option.bind_some _ _).symm.trans H; with_reducible exact H2_) | with_reducible exact H | (rw [qlO]; exact H) | exact H
        have qqZ := qaa.mk qlO; clear qlO; simp only [Option.some.injEq, Prod.mk.injEq] at H; obtain ⟨rfl, rfl⟩ := H; obtain ⟨Ao68, co68, eo68⟩ := Kd.R_slice HO_13.out; subst eo68; have q69 : ((qd6.length : Int) : Int) ≤ ((qd6.length : Int) : Int) := of_decide_eq_true (by first | (with_reducible assumption) | assumption); obtain ⟨i069, qrr, _, qva, _⟩ := info_parts qi3; have qB2 := qif (P := Try.prog) 37 3 Try.underlying37 qrr Ao68 qd6.length co68 (Kd.R_reads' HO_13.out).2.1; have hr69 := Kd.R_take (m := ((qd6.length : Int) : Int).toNat) HO_13.out (by omega); have hy69 : y182.length = ((qd6.length : Int) : Int).toNat := (by rw [qqZ.out, List.length_take]; omega); rw [← qqZ.out] at hr69
        have hy70 : qd6.length = y182.length := by rw [hy69]; omega
        have HY70 := qaa.mk hy70; clear hy69 hy70 qrr qva HO_13; have qt5 := qaa.mk hr69; clear hr69; replace q69 := eq_true q69
        go_wp2
        go_ret2
        exact ⟨_, by first | rfl | (simp [qaO, qaP] <;> rfl) | (simp [*, qaO, qaP] <;> rfl), qpX (by (with_reducible repeat (first | apply Kd.R_alloc | apply Kd.R_drewN | apply Kd.R_drew)); exact qt5.out) _ HY70.out, by repeat (first | (with_reducible first | exact HB.out | apply qag | apply qad | apply qah | refine qaf ?_ qcF.out | refine qaf ?_ qcQ.out | refine qaf ?_ qfn.out) | exact HB.out)⟩
       rw [if_neg c67] at H
       exact absurd H (by simp)
      rw [if_neg c66] at H
      exact absurd H (by simp)
    replace c32 := Bool.eq_false_iff.mpr c32; subst c32
    have H1 : (some (([] : List Int), 92)) = some (r1, r2) := by rw [if_neg (show ¬ (false = true) by decide)] at H; exact H
    clear H; have H := H1; clear H1; simp only [Option.some.injEq, Prod.mk.injEq] at H; obtain ⟨rfl, rfl⟩ := H
    go_wp2
    go_ret2
    exact ⟨_, by first | rfl | (simp [qaO, qaP] <;> rfl) | (simp [*, qaO, qaP] <;> rfl), (by first | exact Kd.V_nil _ _ _ _ _ | (show Kd.V _ _ _ _ _ (.slice none 0 0) []; exact Kd.V_nil _ _ _ _ _)), by repeat (first | (with_reducible first | exact HB.out | apply qag | apply qad | apply qah | refine qaf ?_ qcF.out | refine qaf ?_ qcQ.out) | exact HB.out)⟩
end Go.Proofs.Ytmhomdohhihlcaa.P
namespace Go.Proofs.Ytmhomdohhihlcaa.P
open Go.RowKit Go.Proofs.YtmhomdohhihlcaaW.PrintWords Go.Proofs.YtmhomdohhihlcaaW.PrintLast Go.Proofs.YtmhomdohhihlcaaW.PrintMore
attribute [local go_sem] qb2 qb4 qcg qch qbQ qbR qb3 qb5
def qcz.l0 : Nat → List Int → List Int → Int → Option (Bool)
 | 0, _, _, _ => none
 | k + 1, x0, x1, x5 => if x5 < (x0.length : Int) then (if 0 ≤ x5 then (if x5 < (x1.length : Int) then (if (rd x0 x5) = (rd x1 x5) then (qcz.l0 k x0 x1 (wrap64 (x5 + 1))) else (some false)) else (none)) else (none)) else (some true)
def qcz.f (k : Nat) (l0 : List Int) (l1 : List Int) : Option (Bool) := if (l0.length : Int) = (l1.length : Int) then (qcz.l0 k l0 l1 0) else (some false)
set_option maxHeartbeats 8000000 in
set_option maxRecDepth 100000 in
theorem qcz.calls (k : Nat) (A0 : Option Addr) (c0 : Nat) (l0 : List Int) (A1 : Option Addr) (c1 : Nat) (l1 : List Int) (r : Bool) (w : World) (hr0 : Kd.C (Kd.int .i64) w A0 l0.length l0) (hc0 : l0.length ≤ c0) (hr1 : Kd.C (Kd.int .i64) w A1 l1.length l1) (hc1 : l1.length ≤ c1) (h : qcz.f k l0 l1 = some r) :
  Calls Try.prog 27 #[.slice A0 l0.length c0, .slice A1 l1.length c1] w fun e w' => e = .returned (.bool r) ∧ qbF w w' := by
 have HR0 := qaa.mk hr0
 have HC0 := qaa.mk hc0
 clear hr0 hc0
 have HR1 := qaa.mk hr1
 have HC1 := qaa.mk hc1
 clear hr1 hc1
 have H : (if (l0.length : Int) = (l1.length : Int) then (qcz.l0 k l0 l1 0) else (some false)) = some r := h
 clear h
 by_cases c3 : (l0.length : Int) = (l1.length : Int)
 ·
  rw [if_pos c3] at H
  have c3b0 : ((l0.length : Int) == (l1.length : Int)) = true := beq_iff_eq.mpr c3
  have c3b1 : ((l0.length : Int) != (l1.length : Int)) = false := bne_eq_false_iff_eq.mpr c3
  have c3b2 : (l0.length == l1.length) = true := by first | simpa using c3 | (simp at c3 ⊢; omega)
  clear c3
  have H' := qaa.mk H
  clear H
  go_enter Try.func27, Try.ntmps27
  go_wp2
  repeat (go_quiet (fail); try go_wp2)
  go_loopg [5] k (fun kq v5 w' => ∃ (x5_1 : Int), v5 = .int .i64 x5_1 ∧ qaa (qcz.l0 kq l0 l1 x5_1 = some r) ∧ qaa (kq ≤ k) ∧ qbF w w')
  case atStart => exact ⟨(0), (by first | rfl | (simp; done) | (simp [*]; done)), H', ⟨Nat.le_refl _⟩, by repeat (first | exact qbF.refl _ | apply qbF.step)⟩
  clear H'
  try clear c1
  try clear c2
  try clear p2
  try clear c3
  try clear c3b0
  try clear c3b1
  try clear c3b2
  obtain ⟨x5_1, rfl, HA, HK1, ⟨m1, rfl⟩⟩ := hrel
  cases gk with
  | zero => exact absurd HA.out (by simp [qcz.l0])
  | succ k1 =>
   have H := HA.out
   clear HA
   simp only [qcz.l0] at H
   by_cases c4 : x5_1 < (l0.length : Int)
   ·
    rw [if_pos c4] at H; have c4b0 : decide (x5_1 < (l0.length : Int)) = true := decide_eq_true c4; clear c4
    by_cases c5 : 0 ≤ x5_1
    ·
     rw [if_pos c5] at H; have c5b0 : decide (0 ≤ x5_1) = true := decide_eq_true c5; clear c5
     by_cases c6 : x5_1 < (l1.length : Int)
     ·
      rw [if_pos c6] at H; have c6b0 : decide (x5_1 < (l1.length : Int)) = true := decide_eq_true c6; clear c6
      by_cases c7 : (rd l0 x5_1) = (rd l1 x5_1)
      ·
       rw [if_pos c7] at H; have c7b0 : ((rd l0 x5_1) == (rd l1 x5_1)) = true := beq_iff_eq.mpr c7; have c7b1 : ((rd l0 x5_1) != (rd l1 x5_1)) = false := bne_eq_false_iff_eq.mpr c7; clear c7; have H' := qaa.mk H; clear H; have p185 : 0 ≤ (x5_1 : Int) := of_decide_eq_true (by first | (with_reducible assumption) | assumption); have q185 : x5_1 < (l0.length : Int) := of_decide_eq_true (by first | (with_reducible assumption) | assumption); obtain ⟨qul, e185, qtb⟩ := Kd.at_int HR0.out x5_1 p185 q185; cases e185; replace p185 := eq_true p185; replace q185 := eq_true q185; have p186 : 0 ≤ (x5_1 : Int) := of_decide_eq_true (by first | (with_reducible assumption) | assumption); have q186 : x5_1 < (l1.length : Int) := of_decide_eq_true (by first | (with_reducible assumption) | assumption); obtain ⟨qum, e186, qtc⟩ := Kd.at_int HR1.out x5_1 p186 q186; cases e186; replace p186 := eq_true p186; replace q186 := eq_true q186
       go_wp2
       repeat (go_quiet (fail); try go_wp2)
       go_roundg k1
       case measure => have := HK1.out; omega
       case rel => exact ⟨(wrap64 (x5_1 + 1)), (by first | rfl | (simp; done) | (simp [*]; done)), H', ⟨by have := HK1.out; omega⟩, by repeat (first | exact qbF.refl _ | apply qbF.step)⟩
      rw [if_neg c7] at H; have c7b0 : ((rd l0 x5_1) == (rd l1 x5_1)) = false := beq_eq_false_iff_ne.mpr c7; have c7b1 : ((rd l0 x5_1) != (rd l1 x5_1)) = true := bne_iff_ne.mpr c7; obtain rfl := Option.some.inj H; have p185 : 0 ≤ (x5_1 : Int) := of_decide_eq_true (by first | (with_reducible assumption) | assumption); have q185 : x5_1 < (l0.length : Int) := of_decide_eq_true (by first | (with_reducible assumption) | assumption); obtain ⟨qul, e185, qtb⟩ := Kd.at_int HR0.out x5_1 p185 q185; cases e185; replace p185 := eq_true p185; replace q185 := eq_true q185; have p186 : 0 ≤ (x5_1 : Int) := of_decide_eq_true (by first | (with_reducible assumption) | assumption); have q186 : x5_1 < (l1.length : Int) := of_decide_eq_true (by first | (with_reducible assumption) | assumption); obtain ⟨qum, e186, qtc⟩ := Kd.at_int HR1.out x5_1 p186 q186; cases e186; replace p186 := eq_true p186; replace q186 := eq_true q186
      go_wp2
      repeat (go_quiet (fail); try go_wp2)
      go_ret
      exact ⟨by first | rfl | (simp; done) | (simp [*]; done), by repeat (first | exact qbF.refl _ | apply qbF.step)⟩
     rw [if_neg c6] at H
     exact absurd H (by simp)
    rw [if_neg c5] at H
    exact absurd H (by simp)
   rw [if_neg c4] at H
   have c4b0 : decide (x5_1 < (l0.length : Int)) = false := decide_eq_false c4
   clear c4
   obtain rfl := Option.some.inj H
   go_wp2
   repeat (go_quiet (fail); try go_wp2)
   go_ret
   exact ⟨by first | rfl | (simp; done) | (simp [*]; done), by repeat (first | exact qbF.refl _ | apply qbF.step)⟩
 rw [if_neg c3] at H
 have c3b0 : ((l0.length : Int) == (l1.length : Int)) = false := beq_eq_false_iff_ne.mpr c3
 have c3b1 : ((l0.length : Int) != (l1.length : Int)) = true := bne_iff_ne.mpr c3
 have c3b2 : (l0.length == l1.length) = false := by first | simpa using c3 | (simp at c3 ⊢; omega)
 obtain rfl := Option.some.inj H
 go_enter Try.func27, Try.ntmps27
 go_wp2
 repeat (go_quiet (fail); try go_wp2)
 go_ret
 exact ⟨by first | rfl | (simp; done) | (simp [*]; done), by repeat (first | exact qbF.refl _ | apply qbF.step)⟩
end Go.Proofs.Ytmhomdohhihlcaa.P
namespace Go.Proofs.Ytmhomdohhihlcaa.P
open Go.RowKit Go.Proofs.YtmhomdohhihlcaaW.PrintWords Go.Proofs.YtmhomdohhihlcaaW.PrintLast Go.Proofs.YtmhomdohhihlcaaW.PrintMore
attribute [local go_sem] qb2 qb4 qcg qch qbQ qbR qb3 qb5
mutual
def qaF.j0 : Nat → Int → Bool → List (S39) → List Int → List (List (List Int)) → Option (Int)
 | 0, _, _, _, _, _ => none
 | k + 1, x3, x4, qcO, qdc, qcU => qaF.l0 k x3 x4 0 qcO qdc qcU
def qaF.l0 : Nat → Int → Bool → Int → List (S39) → List Int → List (List (List Int)) → Option (Int)
 | 0, _, _, _, _, _, _ => none
 | k + 1, x3, x4, x5, qcO, qdc, qcU => if x4 = true then (qaF.j2 k x3 x4 x5 (decide (x5 < x3)) qcO qdc qcU) else (qaF.j2 k x3 x4 x5 false qcO qdc qcU)
def qaF.j2 : Nat → Int → Bool → Int → Bool → List (S39) → List Int → List (List (List Int)) → Option (Int)
 | 0, _, _, _, _, _, _, _ => none
 | k + 1, x3, x4, x5, x35, qcO, qdc, qcU => if x35 = true then (if 0 ≤ x5 then (if x5 < (qcO.length : Int) then ((qaE.f k ((qal qcO x5).f0) ((qal qcO x5).f1) ((qal qcO x5).f2) ((qal qcO x5).f3) ((qal qcO x5).f4)).bind fun t191 => (if t191 = true then (if x5 < (qdc.length : Int) then ((qaD.f (rd qdc x5) 0 100).bind fun t193 => (qaF.l0 k x3 t193 (wrap64 (x5 + 1)) qcO qdc qcU)) else (none)) else (qaF.l0 k x3 false (wrap64 (x5 + 1)) qcO qdc qcU))) else (none)) else (none)) else (qaF.l1 k x3 x4 qcU (qcU.length : Int) 0 qcO qdc qcU)
def qaF.l1 : Nat → Int → Bool → List (List (List Int)) → Int → Int → List (S39) → List Int → List (List (List Int)) → Option (Int)
 | 0, _, _, _, _, _, _, _, _ => none
 | k + 1, x3, x4, x54, x55, x56, qcO, qdc, qcU => if x56 < x55 then (if 0 ≤ x56 then (if x56 < (x54.length : Int) then (if x4 = true then (qaF.j4 k x3 (((qaM x54 x56).length : Int) == x3) (qaM x54 x56) x54 x55 x56 qcO qdc qcU) else (qaF.j4 k x3 false (qaM x54 x56) x54 x55 x56 qcO qdc qcU)) else (none)) else (none)) else (if x4 = true then (some 0) else (some 93))
def qaF.j4 : Nat → Int → Bool → List (List Int) → List (List (List Int)) → Int → Int → List (S39) → List Int → List (List (List Int)) → Option (Int)
 | 0, _, _, _, _, _, _, _, _, _ => none
 | k + 1, x3, x4, x7, x54, x55, x56, qcO, qdc, qcU => qaF.l2 k x3 x4 x54 x55 x56 x7 (x7.length : Int) 0 qcO qdc qcU
def qaF.l2 : Nat → Int → Bool → List (List (List Int)) → Int → Int → List (List Int) → Int → Int → List (S39) → List Int → List (List (List Int)) → Option (Int)
 | 0, _, _, _, _, _, _, _, _, _, _, _ => none
 | k + 1, x3, x4, x54, x55, x56, x67, x68, x69, qcO, qdc, qcU => if x69 < x68 then (if 0 ≤ x69 then (if x69 < (x67.length : Int) then (if x4 = true then ((qaD.f ((qa2 x67 x69).length : Int) 1 10).bind fun t196 => (if t196 = true then (if 0 < (qcU.length : Int) then (if 0 < ((qaM qcU 0).length : Int) then (qaF.j6 k x3 (((qa2 x67 x69).length : Int) == ((qa2 (qaM qcU 0) 0).length : Int)) (qa2 x67 x69) x54 x55 x56 x67 x68 x69 qcO qdc qcU) else (none)) else (none)) else (qaF.j6 k x3 false (qa2 x67 x69) x54 x55 x56 x67 x68 x69 qcO qdc qcU))) else (qaF.j6 k x3 false (qa2 x67 x69) x54 x55 x56 x67 x68 x69 qcO qdc qcU)) else (none)) else (none)) else (qaF.l1 k x3 x4 x54 x55 (wrap64 (x56 + 1)) qcO qdc qcU)
def qaF.j6 : Nat → Int → Bool → List Int → List (List (List Int)) → Int → Int → List (List Int) → Int → Int → List (S39) → List Int → List (List (List Int)) → Option (Int)
 | 0, _, _, _, _, _, _, _, _, _, _, _, _ => none
 | k + 1, x3, x4, x9, x54, x55, x56, x67, x68, x69, qcO, qdc, qcU => qaF.l3 k x3 x4 x54 x55 x56 x67 x68 x69 x9 (x9.length : Int) 0 qcO qdc qcU
def qaF.l3 : Nat → Int → Bool → List (List (List Int)) → Int → Int → List (List Int) → Int → Int → List Int → Int → Int → List (S39) → List Int → List (List (List Int)) → Option (Int)
 | 0, _, _, _, _, _, _, _, _, _, _, _, _, _, _ => none
 | k + 1, x3, x4, x54, x55, x56, x67, x68, x69, x91, x92, x93, qcO, qdc, qcU => if x93 < x92 then (if 0 ≤ x93 then (if x93 < (x91.length : Int) then (if x4 = true then ((qaD.f (rd x91 x93) 0 100000).bind fun t200 => (qaF.l3 k x3 t200 x54 x55 x56 x67 x68 x69 x91 x92 (wrap64 (x93 + 1)) qcO qdc qcU)) else (qaF.l3 k x3 false x54 x55 x56 x67 x68 x69 x91 x92 (wrap64 (x93 + 1)) qcO qdc qcU)) else (none)) else (none)) else (qaF.l2 k x3 x4 x54 x55 x56 x67 x68 (wrap64 (x69 + 1)) qcO qdc qcU)
end
def qaF.f (k : Nat) (l0_0 : List (S39)) (l0_1 : List Int) (l0_2 : List (List (List Int))) : Option (Int) := (qaD.f (l0_0.length : Int) 1 3).bind fun t188 => (if t188 = true then (if (l0_1.length : Int) = (l0_0.length : Int) then ((qaD.f (l0_2.length : Int) 1 6).bind fun t189 => (qaF.j0 k (l0_0.length : Int) t189 l0_0 l0_1 l0_2)) else (qaF.j0 k (l0_0.length : Int) false l0_0 l0_1 l0_2)) else (qaF.j0 k (l0_0.length : Int) false l0_0 l0_1 l0_2))
set_option maxHeartbeats 8000000 in
set_option maxRecDepth 100000 in
theorem qaF.calls (k : Nat) (A0_0 : Option Addr) (c0_0 : Nat) (l0_0 : List (S39)) (A0_1 : Option Addr) (c0_1 : Nat) (l0_1 : List Int) (A0_2 : Option Addr) (c0_2 : Nat) (l0_2 : List (List (List Int))) (r : Int) (w : World) (qef : Kd.C k39 w A0_0 l0_0.length l0_0) (qem : l0_0.length ≤ c0_0) (qeg : Kd.C (Kd.int .i64) w A0_1 l0_1.length l0_1) (qen : l0_1.length ≤ c0_1) (qeh : Kd.C (Kd.slice 37 (Kd.slice 3 (Kd.int .i64))) w A0_2 l0_2.length l0_2) (qeo : l0_2.length ≤ c0_2) (h : qaF.f k l0_0 l0_1 l0_2 = some r) :
  Calls Try.prog 30 #[.agg #[.slice A0_0 l0_0.length c0_0, .slice A0_1 l0_1.length c0_1, .slice A0_2 l0_2.length c0_2]] w fun e w' => e = .returned (.int .i64 r) ∧ Below w.heap.size w w' := by
 have hu47 := Try.underlying47
 have hu39 := Try.underlying39
 have qpB := Try.underlying111
 have qdr := qaa.mk qef
 have qdH := qaa.mk qem
 clear qef qem
 have qdu := qaa.mk qeg
 have qdI := qaa.mk qen
 clear qeg qen
 have qdv := qaa.mk qeh
 have qdJ := qaa.mk qeo
 clear qeh qeo
 have HB := qaa.mk (Below.refl w.heap.size w)
 have H : ((qaD.f (l0_0.length : Int) 1 3).bind fun t188 => (if t188 = true then (if (l0_1.length : Int) = (l0_0.length : Int) then ((qaD.f (l0_2.length : Int) 1 6).bind fun t189 => (qaF.j0 k (l0_0.length : Int) t189 l0_0 l0_1 l0_2)) else (qaF.j0 k (l0_0.length : Int) false l0_0 l0_1 l0_2)) else (qaF.j0 k (l0_0.length : Int) false l0_0 l0_1 l0_2))) = some r := h
 clear h
 have HC2 := qaa.mk H
 clear H
 go_enter Try.func30, Try.ntmps30
 go_upto_region 2 with (first | ((with_reducible refine qa1 (N := 1) rfl ?_); (try (refine qdF (by rfl) ?_; dsimp only)); refine qbq ?hg (N := 1) ?hd (cs := #[.slice A0_0 l0_0.length c0_0, .slice A0_1 l0_1.length c0_1, .slice A0_2 l0_2.length c0_2]) (t := 47) ?hr ?_; (case hd => rfl); (case hg => rfl); (case hr => first | (go_simp; done) | (go_simp; rfl)); intro qdg hg w3 hbox hb; have n0_ := qaa.mk (qaA (by repeat (first | (with_reducible first | exact HB.out | apply qag | apply qad | apply qah) | exact HB.out)) hb); have n1_ := qaa.mk (hbox); have n2_ := qaa.mk ((by rw [hg]; exact (qav (by repeat (first | (with_reducible first | exact HB.out | apply qag | apply qad | apply qah) | exact HB.out))) : w.heap.size ≤ qdg)); have n3_ := qaa.mk ((by rw [hg]; exact (qav (by repeat (first | (with_reducible first | exact HB.out | apply qag | apply qad | apply qah) | exact HB.out))) : w.heap.size ≤ qdg)); clear HB; have HB := n0_; have qbv := n1_; have qCw := n2_; have qd7 := n3_; clear n0_ n1_ n2_ n3_; clear hb hbox hg; have qeL : w3.cell? ⟨qdg, 0, none⟩ = some (.slice A0_0 l0_0.length c0_0) := (qai qbv.out 0).trans rfl; have qeM : w3.cell? ⟨qdg, 1, none⟩ = some (.slice A0_1 l0_1.length c0_1) := (qai qbv.out 1).trans rfl; have qe0 : w3.cell? ⟨qdg, 2, none⟩ = some (.slice A0_2 l0_2.length c0_2) := (qai qbv.out 2).trans rfl; have qeN := qaj qbv.out 0; have qeO := qaj qbv.out 1; have qe2 := qaj qbv.out 2))
 (try simp only [qaq, qam, qap, qao, qan])
 go_cut [4] (fun v4 wc => ∃ (kq : Nat) (x4_1 : Bool), v4 = .bool x4_1 ∧ qaa (qaF.j0 kq (l0_0.length : Int) x4_1 l0_0 l0_1 l0_2 = some r) ∧ qaa (kq ≤ k) ∧ qaa (wc.heap[qdg]? = some (.cells #[(.slice A0_0 l0_0.length c0_0), (.slice A0_1 l0_1.length c0_1), (.slice A0_2 l0_2.length c0_2)] 47 (0, 0))) ∧ qaa (Below w.heap.size w wc))
 case first =>
  have H := HC2.out
  clear HC2
  replace H := Option.bind_eq_some_iff.mp H
  obtain ⟨t188, A50, H⟩ := H
  replace H : (if t188 = true then (if (l0_1.length : Int) = (l0_0.length : Int) then ((qaD.f (l0_2.length : Int) 1 6).bind fun t189 => (qaF.j0 k (l0_0.length : Int) t189 l0_0 l0_1 l0_2)) else (qaF.j0 k (l0_0.length : Int) false l0_0 l0_1 l0_2)) else (qaF.j0 k (l0_0.length : Int) false l0_0 l0_1 l0_2)) = some r := H
  have A5 := qaa.mk A50
  clear A50
  by_cases c6 : t188 = true
  ·
   subst c6
   have H1 : (if (l0_1.length : Int) = (l0_0.length : Int) then ((qaD.f (l0_2.length : Int) 1 6).bind fun t189 => (qaF.j0 k (l0_0.length : Int) t189 l0_0 l0_1 l0_2)) else (qaF.j0 k (l0_0.length : Int) false l0_0 l0_1 l0_2)) = some r := by rw [if_pos rfl] at H; exact H
   clear H
   have H := H1
   clear H1
   by_cases c7 : (l0_1.length : Int) = (l0_0.length : Int)
   ·
    rw [if_pos c7] at H; have c7b0 : ((l0_1.length : Int) == (l0_0.length : Int)) = true := beq_iff_eq.mpr c7; have c7b1 : ((l0_1.length : Int) != (l0_0.length : Int)) = false := bne_eq_false_iff_eq.mpr c7
    have c7b2 : (l0_1.length == l0_0.length) = true := by first | simpa using c7 | (simp at c7 ⊢; omega)
    clear c7
    (first | rw [c7b0] | (simp only [qaB, qaC]; rw [c7b0]) | skip)
    replace H := Option.bind_eq_some_iff.mp H; obtain ⟨t189, A80, H⟩ := H; replace H : (qaF.j0 k (l0_0.length : Int) t189 l0_0 l0_1 l0_2) = some r := H; have A8 := qaa.mk A80; clear A80; have H' := qaa.mk H; clear H
    go_wp2_with (first | ((with_reducible refine qaT (f := 65) rfl ?_); refine qbs (some 16) rfl rfl Try.func65 (by kernel_rfl) rfl #[.int .i64 (l0_0.length : Int), .int .i64 1, .int .i64 3] rfl (by (try simp only [List.map_toArray, List.map_cons, List.map_nil]); first | done | rfl | (simp only [List.length_drop, List.length_take]; rfl)) ?_; (with_reducible refine (qaD.calls (l0_0.length : Int) 1 3 true _ A5.out).mono ?_); rintro e w' ⟨rfl, ⟨nd, rfl⟩⟩; refine ⟨_, rfl, ?_⟩; have qdR : w3.cell? ⟨qdg, 0, none⟩ = some (.slice A0_0 l0_0.length c0_0) := (qai qbv.out 0).trans rfl; have qdS : w3.cell? ⟨qdg, 1, none⟩ = some (.slice A0_1 l0_1.length c0_1) := (qai qbv.out 1).trans rfl; have qe1 : w3.cell? ⟨qdg, 2, none⟩ = some (.slice A0_2 l0_2.length c0_2) := (qai qbv.out 2).trans rfl; have qdT := qaj qbv.out 0; have qdU := qaj qbv.out 1; have qe3 := qaj qbv.out 2) | (go_at_call 65; (with_reducible refine (qaD.calls (l0_2.length : Int) 1 6 t189 _ A8.out).mono ?_); rintro e w' ⟨rfl, ⟨nd, rfl⟩⟩))
    go_meet
    case rel => exact ⟨_, (t189), (by first | rfl | (simp; done) | (simp [*]; done)), H', ⟨by first | omega | exact Nat.le_refl _⟩, ⟨by (with_reducible repeat (first | refine qac ?_ _ | refine qae ?_ | refine qab ?_ _)); exact qbv.out⟩, ⟨by repeat (first | (with_reducible first | exact HB.out | apply qag | apply qad | apply qah | refine qaf ?_ qd7.out) | exact HB.out)⟩⟩
   rw [if_neg c7] at H
   have c7b0 : ((l0_1.length : Int) == (l0_0.length : Int)) = false := beq_eq_false_iff_ne.mpr c7
   have c7b1 : ((l0_1.length : Int) != (l0_0.length : Int)) = true := bne_iff_ne.mpr c7
   have c7b2 : (l0_1.length == l0_0.length) = false := by first | simpa using c7 | (simp at c7 ⊢; omega)
   (first | rw [c7b0] | (simp only [qaB, qaC]; rw [c7b0]) | skip)
   have H' := qaa.mk H
   clear H
   go_wp2_with (first | ((with_reducible refine qaT (f := 65) rfl ?_); refine qbs (some 16) rfl rfl Try.func65 (by kernel_rfl) rfl #[.int .i64 (l0_0.length : Int), .int .i64 1, .int .i64 3] rfl (by (try simp only [List.map_toArray, List.map_cons, List.map_nil]); first | done | rfl | (simp only [List.length_drop, List.length_take]; rfl)) ?_; (with_reducible refine (qaD.calls (l0_0.length : Int) 1 3 true _ A5.out).mono ?_); rintro e w' ⟨rfl, ⟨nd, rfl⟩⟩; refine ⟨_, rfl, ?_⟩; have qeV : w3.cell? ⟨qdg, 0, none⟩ = some (.slice A0_0 l0_0.length c0_0) := (qai qbv.out 0).trans rfl; have qeW : w3.cell? ⟨qdg, 1, none⟩ = some (.slice A0_1 l0_1.length c0_1) := (qai qbv.out 1).trans rfl; have qfa : w3.cell? ⟨qdg, 2, none⟩ = some (.slice A0_2 l0_2.length c0_2) := (qai qbv.out 2).trans rfl; have qeX := qaj qbv.out 0; have qeY := qaj qbv.out 1; have qfb := qaj qbv.out 2))
   go_meet
   case rel => exact ⟨_, (false), (by first | rfl | (simp; done) | (simp [*]; done)), H', ⟨by first | omega | exact Nat.le_refl _⟩, ⟨by (with_reducible repeat (first | refine qac ?_ _ | refine qae ?_ | refine qab ?_ _)); exact qbv.out⟩, ⟨by repeat (first | (with_reducible first | exact HB.out | apply qag | apply qad | apply qah | refine qaf ?_ qd7.out) | exact HB.out)⟩⟩
  replace c6 := Bool.eq_false_iff.mpr c6
  subst c6
  have H1 : (qaF.j0 k (l0_0.length : Int) false l0_0 l0_1 l0_2) = some r := by rw [if_neg (show ¬ (false = true) by decide)] at H; exact H
  clear H
  have H := H1
  clear H1
  have H' := qaa.mk H
  clear H
  go_wp2_with (first | ((with_reducible refine qaT (f := 65) rfl ?_); refine qbs (some 16) rfl rfl Try.func65 (by kernel_rfl) rfl #[.int .i64 (l0_0.length : Int), .int .i64 1, .int .i64 3] rfl (by (try simp only [List.map_toArray, List.map_cons, List.map_nil]); first | done | rfl | (simp only [List.length_drop, List.length_take]; rfl)) ?_; (with_reducible refine (qaD.calls (l0_0.length : Int) 1 3 false _ A5.out).mono ?_); rintro e w' ⟨rfl, ⟨nd, rfl⟩⟩; refine ⟨_, rfl, ?_⟩))
  go_meet
  case rel => exact ⟨_, (false), (by first | rfl | (simp; done) | (simp [*]; done)), H', ⟨by first | omega | exact Nat.le_refl _⟩, ⟨by (with_reducible repeat (first | refine qac ?_ _ | refine qae ?_ | refine qab ?_ _)); exact qbv.out⟩, ⟨by repeat (first | (with_reducible first | exact HB.out | apply qag | apply qad | apply qah | refine qaf ?_ qd7.out) | exact HB.out)⟩⟩
 clear HC2
 try clear p2
 try clear c3
 try clear c6
 try clear c7
 try clear c7b0
 try clear c7b1
 try clear c7b2
 try clear qeV
 try clear qeW
 try clear qfa
 try clear qeL
 try clear qeM
 try clear qe0
 try clear qdR
 try clear qdS
 try clear qe1
 try clear qeX
 try clear qeY
 try clear qfb
 try clear qeN
 try clear qeO
 try clear qe2
 try clear qdT
 try clear qdU
 try clear qe3
 obtain ⟨kq, x4_1, rfl, HA, HJ1, qbv, HB⟩ := hcut
 cases kq with
 | zero => exact absurd HA.out (by simp [qaF.j0])
 | succ kj1 =>
  have H := HA.out
  clear HA
  simp only [qaF.j0] at H
  have H' := qaa.mk H
  clear H
  go_wp2
  go_loopg [4, 5] kj1 (fun kq v4 v5 w' => ∃ (x4_2 : Bool) (x5_2 : Int), v4 = .bool x4_2 ∧ v5 = .int .i64 x5_2 ∧ qaa (qaF.l0 kq (l0_0.length : Int) x4_2 x5_2 l0_0 l0_1 l0_2 = some r) ∧ qaa (kq ≤ kj1) ∧ qaa (w'.heap[qdg]? = some (.cells #[(.slice A0_0 l0_0.length c0_0), (.slice A0_1 l0_1.length c0_1), (.slice A0_2 l0_2.length c0_2)] 47 (0, 0))) ∧ qaa (Below w.heap.size w w'))
  case atStart => exact ⟨(x4_1), (0), (by first | rfl | (simp; done) | (simp [*]; done)), (by first | rfl | (simp; done) | (simp [*]; done)), H', ⟨Nat.le_refl _⟩, ⟨by (with_reducible repeat (first | refine qac ?_ _ | refine qae ?_ | refine qab ?_ _)); exact qbv.out⟩, ⟨by repeat (first | (with_reducible first | exact HB.out | apply qag | apply qad | apply qah | refine qaf ?_ qd7.out) | exact HB.out)⟩⟩
  clear H'
  try clear p2
  try clear c3
  try clear c6
  try clear c7
  try clear c7b0
  try clear c7b1
  try clear c7b2
  try clear qeV
  try clear qeW
  try clear qfa
  try clear qeL
  try clear qeM
  try clear qe0
  try clear qdR
  try clear qdS
  try clear qe1
  try clear qeX
  try clear qeY
  try clear qfb
  try clear qeN
  try clear qeO
  try clear qe2
  try clear qdT
  try clear qdU
  try clear qe3
  try clear p2
  obtain ⟨x4_2, x5_2, rfl, rfl, HA, HK2, qbv, HB⟩ := hrel
  cases gk with
  | zero => exact absurd HA.out (by simp [qaF.l0])
  | succ k2 =>
   have H := HA.out
   clear HA
   simp only [qaF.l0] at H
   have HC11 := qaa.mk H
   clear H
   go_upto_region 4 with (fail)
   go_cut [35] (fun v35 wc => ∃ (kq : Nat) (qmj : Bool), v35 = .bool qmj ∧ qaa (qaF.j2 kq (l0_0.length : Int) x4_2 x5_2 qmj l0_0 l0_1 l0_2 = some r) ∧ qaa (kq ≤ k2) ∧ qaa (wc.heap[qdg]? = some (.cells #[(.slice A0_0 l0_0.length c0_0), (.slice A0_1 l0_1.length c0_1), (.slice A0_2 l0_2.length c0_2)] 47 (0, 0))) ∧ qaa (Below w.heap.size w wc))
   case first =>
    have H := HC11.out; clear HC11
    by_cases c12 : x4_2 = true
    ·
     subst c12
     have H1 : (qaF.j2 k2 (l0_0.length : Int) true x5_2 (decide (x5_2 < (l0_0.length : Int))) l0_0 l0_1 l0_2) = some r := by rw [if_pos rfl] at H; exact H
     clear H; have H := H1; clear H1; have H' := qaa.mk H; clear H
     go_wp2
     go_meet
     case rel => exact ⟨_, (decide (x5_2 < (l0_0.length : Int))), (by first | rfl | (simp; done) | (simp [*]; done)), H', ⟨by have := HJ1.out; have := HK2.out; first | omega | exact Nat.le_refl _⟩, ⟨by (with_reducible repeat (first | refine qac ?_ _ | refine qae ?_ | refine qab ?_ _)); exact qbv.out⟩, ⟨by repeat (first | (with_reducible first | exact HB.out | apply qag | apply qad | apply qah | refine qaf ?_ qd7.out) | exact HB.out)⟩⟩
    replace c12 := Bool.eq_false_iff.mpr c12; subst c12
    have H1 : (qaF.j2 k2 (l0_0.length : Int) false x5_2 false l0_0 l0_1 l0_2) = some r := by rw [if_neg (show ¬ (false = true) by decide)] at H; exact H
    clear H; have H := H1; clear H1; have H' := qaa.mk H; clear H
    go_wp2
    go_meet
    case rel => exact ⟨_, (false), (by first | rfl | (simp; done) | (simp [*]; done)), H', ⟨by have := HJ1.out; have := HK2.out; first | omega | exact Nat.le_refl _⟩, ⟨by (with_reducible repeat (first | refine qac ?_ _ | refine qae ?_ | refine qab ?_ _)); exact qbv.out⟩, ⟨by repeat (first | (with_reducible first | exact HB.out | apply qag | apply qad | apply qah | refine qaf ?_ qd7.out) | exact HB.out)⟩⟩
   clear HC11
   try clear c1
   try clear p2
   try clear c3
   try clear c6
   try clear c7
   try clear c7b0
   try clear c7b1
   try clear c7b2
   try clear c12
   try clear qeV
   try clear qeW
   try clear qfa
   try clear qeL
   try clear qeM
   try clear qe0
   try clear qdR
   try clear qdS
   try clear qe1
   try clear qeX
   try clear qeY
   try clear qfb
   try clear qeN
   try clear qeO
   try clear qe2
   try clear qdT
   try clear qdU
   try clear qe3
   try clear p2
   obtain ⟨kq, qmj, rfl, HA, HJ10, qbv, HB⟩ := hcut
   cases kq with
   | zero => exact absurd HA.out (by simp [qaF.j2])
   | succ kj10 =>
    have H := HA.out; clear HA; simp only [qaF.j2] at H
    by_cases c13 : qmj = true
    ·
     subst c13
     have H1 : (if 0 ≤ x5_2 then (if x5_2 < (l0_0.length : Int) then ((qaE.f kj10 ((qal l0_0 x5_2).f0) ((qal l0_0 x5_2).f1) ((qal l0_0 x5_2).f2) ((qal l0_0 x5_2).f3) ((qal l0_0 x5_2).f4)).bind fun t191 => (if t191 = true then (if x5_2 < (l0_1.length : Int) then ((qaD.f (rd l0_1 x5_2) 0 100).bind fun t193 => (qaF.l0 kj10 (l0_0.length : Int) t193 (wrap64 (x5_2 + 1)) l0_0 l0_1 l0_2)) else (none)) else (qaF.l0 kj10 (l0_0.length : Int) false (wrap64 (x5_2 + 1)) l0_0 l0_1 l0_2))) else (none)) else (none)) = some r := by rw [if_pos rfl] at H; exact H
     clear H; have H := H1; clear H1
     by_cases c14 : 0 ≤ x5_2
     ·
      rw [if_pos c14] at H; have c14b0 : decide (0 ≤ x5_2) = true := decide_eq_true c14; clear c14
      by_cases c15 : x5_2 < (l0_0.length : Int)
      ·
       rw [if_pos c15] at H; have c15b0 : decide (x5_2 < (l0_0.length : Int)) = true := decide_eq_true c15; clear c15; replace H := Option.bind_eq_some_iff.mp H; obtain ⟨t191, A160, H⟩ := H; replace H : (if t191 = true then (if x5_2 < (l0_1.length : Int) then ((qaD.f (rd l0_1 x5_2) 0 100).bind fun t193 => (qaF.l0 kj10 (l0_0.length : Int) t193 (wrap64 (x5_2 + 1)) l0_0 l0_1 l0_2)) else (none)) else (qaF.l0 kj10 (l0_0.length : Int) false (wrap64 (x5_2 + 1)) l0_0 l0_1 l0_2)) = some r := H; have A16 := qaa.mk A160; clear A160
       by_cases c17 : t191 = true
       ·
        subst c17
        have H1 : (if x5_2 < (l0_1.length : Int) then ((qaD.f (rd l0_1 x5_2) 0 100).bind fun t193 => (qaF.l0 kj10 (l0_0.length : Int) t193 (wrap64 (x5_2 + 1)) l0_0 l0_1 l0_2)) else (none)) = some r := by rw [if_pos rfl] at H; exact H
        clear H; have H := H1; clear H1
        by_cases c18 : x5_2 < (l0_1.length : Int)
        ·
         rw [if_pos c18] at H; have c18b0 : decide (x5_2 < (l0_1.length : Int)) = true := decide_eq_true c18; clear c18; replace H := Option.bind_eq_some_iff.mp H; obtain ⟨t193, A190, H⟩ := H; replace H : (qaF.l0 kj10 (l0_0.length : Int) t193 (wrap64 (x5_2 + 1)) l0_0 l0_1 l0_2) = some r := H; have A19 := qaa.mk A190; clear A190; have H' := qaa.mk H; clear H; have qje : wc.cell? ⟨qdg, 0, none⟩ = some (.slice A0_0 l0_0.length c0_0) := (qai qbv.out 0).trans rfl; have qjf : wc.cell? ⟨qdg, 1, none⟩ = some (.slice A0_1 l0_1.length c0_1) := (qai qbv.out 1).trans rfl; have qjg : wc.cell? ⟨qdg, 2, none⟩ = some (.slice A0_2 l0_2.length c0_2) := (qai qbv.out 2).trans rfl; have qjq := qaj qbv.out 0; have qjr := qaj qbv.out 1; have qjs := qaj qbv.out 2; have p190 : 0 ≤ (x5_2 : Int) := of_decide_eq_true (by first | (with_reducible assumption) | assumption); have q190 : x5_2 < (l0_0.length : Int) := of_decide_eq_true (by first | (with_reducible assumption) | assumption); obtain ⟨qnE, qnN, qn0, qnO, qn1, qnP, qn2, e190, qfc, qfd, qfe, qff, qfg, qjF, qjB, qjG, qjC, qjH, qjD⟩ := qnY qdr.out x5_2 p190 q190; cases e190; replace qfc := (HB.out.cell (World.block_lt_of_cell? w _ qfc)).trans qfc; replace qfd := (HB.out.cell (World.block_lt_of_cell? w _ qfd)).trans qfd; replace qfe := (HB.out.cell (World.block_lt_of_cell? w _ qfe)).trans qfe; replace qff := (HB.out.cell (World.block_lt_of_cell? w _ qff)).trans qff; replace qfg := (HB.out.cell (World.block_lt_of_cell? w _ qfg)).trans qfg; have qms := qaa.mk qjB; have qmp := qaa.mk qjF; clear qjB qjF; have qmt := qaa.mk qjC; have qmq := qaa.mk qjG; clear qjC qjG; have qmu := qaa.mk qjD; have qmr := qaa.mk qjH; clear qjD qjH; replace p190 := eq_true p190; replace q190 := eq_true q190
         go_wp2_with (first | ((with_reducible refine qaT (f := 76) rfl ?_); refine qbs (some 44) rfl rfl Try.func76 (by kernel_rfl) rfl #[.agg #[.slice qnN ((qal l0_0 x5_2).f0).length qn0, .slice qnO ((qal l0_0 x5_2).f1).length qn1, .slice qnP ((qal l0_0 x5_2).f2).length qn2, .int .i64 ((qal l0_0 x5_2).f3), .int .i64 ((qal l0_0 x5_2).f4)]] rfl (by (try simp only [List.map_toArray, List.map_cons, List.map_nil]); first | done | rfl | (simp only [List.length_drop, List.length_take]; rfl)) ?_; (with_reducible refine (qaE.calls kj10 _ _ ((qal l0_0 x5_2).f0) _ _ ((qal l0_0 x5_2).f1) _ _ ((qal l0_0 x5_2).f2) ((qal l0_0 x5_2).f3) ((qal l0_0 x5_2).f4) true _ ?side1 ?side2 ?side3 ?side4 ?side5 ?side6 A16.out).mono ?_); (case side1 => repeat (first | exact (Kd.C_below qms.out HB.out) | (with_reducible refine Kd.C_alloc ?_ _) | (with_reducible refine Kd.C_drewN ?_ _) | (with_reducible refine Kd.C_drew ?_))); (case side2 => exact qmp.out); (case side3 => repeat (first | exact (Kd.C_below qmt.out HB.out) | (with_reducible refine Kd.C_alloc ?_ _) | (with_reducible refine Kd.C_drewN ?_ _) | (with_reducible refine Kd.C_drew ?_))); (case side4 => exact qmq.out); (case side5 => repeat (first | exact (Kd.C_below qmu.out HB.out) | (with_reducible refine Kd.C_alloc ?_ _) | (with_reducible refine Kd.C_drewN ?_ _) | (with_reducible refine Kd.C_drew ?_))); (case side6 => exact qmr.out); rintro e w21 ⟨rfl, hb⟩; refine ⟨_, rfl, ?_⟩; have n0_ := qaa.mk (qar (g := qdg) (o := .cells #[.slice (some qnE) l0_0.length c0_0, .slice A0_1 l0_1.length c0_1, .slice A0_2 l0_2.length c0_2] 47 (0, 0)) (by (with_reducible repeat (first | refine qac ?_ _ | refine qae ?_ | refine qab ?_ _)); exact qbv.out) hb); have n1_ := qaa.mk (qaA (by repeat (first | (with_reducible first | exact HB.out | apply qag | apply qad | apply qah | refine qaf ?_ qd7.out) | exact HB.out)) hb); clear qbv; clear HB; have qbv := n0_; have HB := n1_; clear n0_ n1_; (try clear hb); (try clear hb2); (try clear hk); (try clear hi); have qit : w21.cell? ⟨qdg, 0, none⟩ = some (.slice (some qnE) l0_0.length c0_0) := (qai qbv.out 0).trans rfl; have qiu : w21.cell? ⟨qdg, 1, none⟩ = some (.slice A0_1 l0_1.length c0_1) := (qai qbv.out 1).trans rfl; have qiv : w21.cell? ⟨qdg, 2, none⟩ = some (.slice A0_2 l0_2.length c0_2) := (qai qbv.out 2).trans rfl; have qiy := qaj qbv.out 0; have qiz := qaj qbv.out 1; have qiA := qaj qbv.out 2; have p192 : 0 ≤ (x5_2 : Int) := of_decide_eq_true (by first | (with_reducible assumption) | assumption); have q192 : x5_2 < (l0_1.length : Int) := of_decide_eq_true (by first | (with_reducible assumption) | assumption); obtain ⟨qCL, e192, qhp⟩ := Kd.at_int qdu.out x5_2 p192 q192; cases e192; replace qhp := (HB.out.cell (World.block_lt_of_cell? w _ qhp)).trans qhp; replace p192 := eq_true p192; replace q192 := eq_true q192) | (go_at_call 65; (with_reducible refine (qaD.calls (rd l0_1 x5_2) 0 100 t193 _ A19.out).mono ?_); rintro e w' ⟨rfl, ⟨nd, rfl⟩⟩))
         go_roundg kj10
         case measure => have := HJ1.out; have := HK2.out; have := HJ10.out; omega
         case rel => exact ⟨(t193), (wrap64 (x5_2 + 1)), (by first | rfl | (simp; done) | (simp [*]; done)), (by first | rfl | (simp; done) | (simp [*]; done)), H', ⟨by have := HJ1.out; have := HK2.out; have := HJ10.out; omega⟩, ⟨by (with_reducible repeat (first | refine qac ?_ _ | refine qae ?_ | refine qab ?_ _)); exact qbv.out⟩, ⟨by repeat (first | (with_reducible first | exact HB.out | apply qag | apply qad | apply qah | refine qaf ?_ qd7.out) | exact HB.out)⟩⟩
        rw [if_neg c18] at H
        exact absurd H (by simp)
       replace c17 := Bool.eq_false_iff.mpr c17; subst c17
       have H1 : (qaF.l0 kj10 (l0_0.length : Int) false (wrap64 (x5_2 + 1)) l0_0 l0_1 l0_2) = some r := by rw [if_neg (show ¬ (false = true) by decide)] at H; exact H
       clear H; have H := H1; clear H1; have H' := qaa.mk H; clear H; have qjh : wc.cell? ⟨qdg, 0, none⟩ = some (.slice A0_0 l0_0.length c0_0) := (qai qbv.out 0).trans rfl; have qji : wc.cell? ⟨qdg, 1, none⟩ = some (.slice A0_1 l0_1.length c0_1) := (qai qbv.out 1).trans rfl; have qjj : wc.cell? ⟨qdg, 2, none⟩ = some (.slice A0_2 l0_2.length c0_2) := (qai qbv.out 2).trans rfl; have qjt := qaj qbv.out 0; have qju := qaj qbv.out 1; have qjv := qaj qbv.out 2; have p190 : 0 ≤ (x5_2 : Int) := of_decide_eq_true (by first | (with_reducible assumption) | assumption); have q190 : x5_2 < (l0_0.length : Int) := of_decide_eq_true (by first | (with_reducible assumption) | assumption); obtain ⟨qnE, qnN, qn0, qnO, qn1, qnP, qn2, e190, qfc, qfd, qfe, qff, qfg, qjF, qjB, qjG, qjC, qjH, qjD⟩ := qnY qdr.out x5_2 p190 q190; cases e190; replace qfc := (HB.out.cell (World.block_lt_of_cell? w _ qfc)).trans qfc; replace qfd := (HB.out.cell (World.block_lt_of_cell? w _ qfd)).trans qfd; replace qfe := (HB.out.cell (World.block_lt_of_cell? w _ qfe)).trans qfe; replace qff := (HB.out.cell (World.block_lt_of_cell? w _ qff)).trans qff; replace qfg := (HB.out.cell (World.block_lt_of_cell? w _ qfg)).trans qfg; have qms := qaa.mk qjB; have qmp := qaa.mk qjF; clear qjB qjF; have qmt := qaa.mk qjC; have qmq := qaa.mk qjG; clear qjC qjG; have qmu := qaa.mk qjD; have qmr := qaa.mk qjH; clear qjD qjH; replace p190 := eq_true p190; replace q190 := eq_true q190
       go_wp2_with (first | ((with_reducible refine qaT (f := 76) rfl ?_); refine qbs (some 44) rfl rfl Try.func76 (by kernel_rfl) rfl #[.agg #[.slice qnN ((qal l0_0 x5_2).f0).length qn0, .slice qnO ((qal l0_0 x5_2).f1).length qn1, .slice qnP ((qal l0_0 x5_2).f2).length qn2, .int .i64 ((qal l0_0 x5_2).f3), .int .i64 ((qal l0_0 x5_2).f4)]] rfl (by (try simp only [List.map_toArray, List.map_cons, List.map_nil]); first | done | rfl | (simp only [List.length_drop, List.length_take]; rfl)) ?_; (with_reducible refine (qaE.calls kj10 _ _ ((qal l0_0 x5_2).f0) _ _ ((qal l0_0 x5_2).f1) _ _ ((qal l0_0 x5_2).f2) ((qal l0_0 x5_2).f3) ((qal l0_0 x5_2).f4) false _ ?side1 ?side2 ?side3 ?side4 ?side5 ?side6 A16.out).mono ?_); (case side1 => repeat (first | exact (Kd.C_below qms.out HB.out) | (with_reducible refine Kd.C_alloc ?_ _) | (with_reducible refine Kd.C_drewN ?_ _) | (with_reducible refine Kd.C_drew ?_))); (case side2 => exact qmp.out); (case side3 => repeat (first | exact (Kd.C_below qmt.out HB.out) | (with_reducible refine Kd.C_alloc ?_ _) | (with_reducible refine Kd.C_drewN ?_ _) | (with_reducible refine Kd.C_drew ?_))); (case side4 => exact qmq.out); (case side5 => repeat (first | exact (Kd.C_below qmu.out HB.out) | (with_reducible refine Kd.C_alloc ?_ _) | (with_reducible refine Kd.C_drewN ?_ _) | (with_reducible refine Kd.C_drew ?_))); (case side6 => exact qmr.out); rintro e w24 ⟨rfl, hb⟩; refine ⟨_, rfl, ?_⟩; have n0_ := qaa.mk (qar (g := qdg) (o := .cells #[.slice (some qnE) l0_0.length c0_0, .slice A0_1 l0_1.length c0_1, .slice A0_2 l0_2.length c0_2] 47 (0, 0)) (by (with_reducible repeat (first | refine qac ?_ _ | refine qae ?_ | refine qab ?_ _)); exact qbv.out) hb); have n1_ := qaa.mk (qaA (by repeat (first | (with_reducible first | exact HB.out | apply qag | apply qad | apply qah | refine qaf ?_ qd7.out) | exact HB.out)) hb); clear qbv; clear HB; have qbv := n0_; have HB := n1_; clear n0_ n1_; (try clear hb); (try clear hb2); (try clear hk); (try clear hi)))
       go_roundg kj10
       case measure => have := HJ1.out; have := HK2.out; have := HJ10.out; omega
       case rel => exact ⟨(false), (wrap64 (x5_2 + 1)), (by first | rfl | (simp; done) | (simp [*]; done)), (by first | rfl | (simp; done) | (simp [*]; done)), H', ⟨by have := HJ1.out; have := HK2.out; have := HJ10.out; omega⟩, ⟨by (with_reducible repeat (first | refine qac ?_ _ | refine qae ?_ | refine qab ?_ _)); exact qbv.out⟩, ⟨by repeat (first | (with_reducible first | exact HB.out | apply qag | apply qad | apply qah | refine qaf ?_ qd7.out) | exact HB.out)⟩⟩
      rw [if_neg c15] at H
      exact absurd H (by simp)
     rw [if_neg c14] at H
     exact absurd H (by simp)
    replace c13 := Bool.eq_false_iff.mpr c13; subst c13
    have H1 : (qaF.l1 kj10 (l0_0.length : Int) x4_2 l0_2 (l0_2.length : Int) 0 l0_0 l0_1 l0_2) = some r := by rw [if_neg (show ¬ (false = true) by decide)] at H; exact H
    clear H; have H := H1; clear H1; have H' := qaa.mk H; clear H; have qjk : wc.cell? ⟨qdg, 0, none⟩ = some (.slice A0_0 l0_0.length c0_0) := (qai qbv.out 0).trans rfl; have qjl : wc.cell? ⟨qdg, 1, none⟩ = some (.slice A0_1 l0_1.length c0_1) := (qai qbv.out 1).trans rfl; have qjm : wc.cell? ⟨qdg, 2, none⟩ = some (.slice A0_2 l0_2.length c0_2) := (qai qbv.out 2).trans rfl; have qjw := qaj qbv.out 0; have qjx := qaj qbv.out 1; have qjy := qaj qbv.out 2
    go_wp2
    go_loopg [4, 56] kj10 (fun kq v4 v56 w' => ∃ (x4_4 : Bool) (qbk : Int), v4 = .bool x4_4 ∧ v56 = .int .i64 qbk ∧ qaa (qaF.l1 kq (l0_0.length : Int) x4_4 l0_2 (l0_2.length : Int) qbk l0_0 l0_1 l0_2 = some r) ∧ qaa (kq ≤ kj10) ∧ qaa (w'.heap[qdg]? = some (.cells #[(.slice A0_0 l0_0.length c0_0), (.slice A0_1 l0_1.length c0_1), (.slice A0_2 l0_2.length c0_2)] 47 (0, 0))) ∧ qaa (Below w.heap.size w w'))
    case atStart => exact ⟨(x4_2), (0), (by first | rfl | (simp; done) | (simp [*]; done)), (by first | rfl | (simp; done) | (simp [*]; done)), H', ⟨Nat.le_refl _⟩, ⟨by (with_reducible repeat (first | refine qac ?_ _ | refine qae ?_ | refine qab ?_ _)); exact qbv.out⟩, ⟨by repeat (first | (with_reducible first | exact HB.out | apply qag | apply qad | apply qah | refine qaf ?_ qd7.out) | exact HB.out)⟩⟩
    clear H'; (try clear c1); (try clear p1); (try clear q1); (try clear hx1); (try clear p2); (try clear c3); (try clear c6); (try clear p6); (try clear c7); (try clear c7b0); (try clear c7b1); (try clear c7b2); (try clear c12); (try clear c13); (try clear c14); (try clear c14b0); (try clear c15); (try clear c15b0); (try clear c17); (try clear c18); (try clear c18b0); (try clear c19); (try clear p19); (try clear q19); (try clear hx19); (try clear qeV); (try clear qeW); (try clear qfa); (try clear qje); (try clear qjf); (try clear qjg); (try clear qit); (try clear qiu); (try clear qiv); (try clear qjh); (try clear qji); (try clear qjj); (try clear qjk); (try clear qjl); (try clear qjm); (try clear qeL); (try clear qeM); (try clear qe0); (try clear qdR); (try clear qdS); (try clear qe1); (try clear qeX); (try clear qeY); (try clear qfb); (try clear qjq); (try clear qjr); (try clear qjs); (try clear qiy); (try clear qiz); (try clear qiA); (try clear qjt); (try clear qju); (try clear qjv); (try clear qjw); (try clear qjx); (try clear qjy); (try clear qeN); (try clear qeO); (try clear qe2); (try clear qdT); (try clear qdU); (try clear qe3); (try clear qfc); (try clear qfd); (try clear qfe); (try clear qff); (try clear qfg); (try clear qhp); (try clear p190); (try clear p192); (try clear p2); (try clear q190); (try clear q192); obtain ⟨x4_4, qbk, rfl, rfl, HA, HK4, qbv, HB⟩ := hrel
    cases gk with
    | zero => exact absurd HA.out (by simp [qaF.l1])
    | succ k4 =>
     have H := HA.out; clear HA; simp only [qaF.l1] at H
     by_cases c26 : qbk < (l0_2.length : Int)
     ·
      rw [if_pos c26] at H; have c26b0 : decide (qbk < (l0_2.length : Int)) = true := decide_eq_true c26; clear c26
      by_cases c27 : 0 ≤ qbk
      ·
       rw [if_pos c27] at H; have c27b0 : decide (0 ≤ qbk) = true := decide_eq_true c27; clear c27
       by_cases c28 : qbk < (l0_2.length : Int)
       ·
        rw [if_pos c28] at H; have c28b0 : decide (qbk < (l0_2.length : Int)) = true := decide_eq_true c28; clear c28; have HC29 := qaa.mk H; clear H; have p194 : 0 ≤ (qbk : Int) := of_decide_eq_true (by first | (with_reducible assumption) | assumption); have q194 : qbk < (l0_2.length : Int) := of_decide_eq_true (by first | (with_reducible assumption) | assumption); obtain ⟨qkw, qBS, qBX, e194, qhP, qoX, qoO⟩ := qpu qdv.out qbk p194 q194; cases e194; replace qhP := (HB.out.cell (World.block_lt_of_cell? w _ qhP)).trans qhP; have qrK := qaa.mk qoO; have qwc := qaa.mk qoX; clear qoO qoX; replace p194 := eq_true p194; replace q194 := eq_true q194
        go_upto_region 10 with (fail)
        go_cut [4] (fun v4 wc => ∃ (kq : Nat) (qnL : Bool), v4 = .bool qnL ∧ qaa (qaF.j4 kq (l0_0.length : Int) qnL (qaM l0_2 qbk) l0_2 (l0_2.length : Int) qbk l0_0 l0_1 l0_2 = some r) ∧ qaa (kq ≤ k4) ∧ qaa (wc.heap[qdg]? = some (.cells #[(.slice A0_0 l0_0.length c0_0), (.slice A0_1 l0_1.length c0_1), (.slice (some qkw) l0_2.length c0_2)] 47 (0, 0))) ∧ qaa (Below w.heap.size w wc))
        case first =>
         have H := HC29.out; clear HC29
         by_cases c30 : x4_4 = true
         ·
          subst c30
          have H1 : (qaF.j4 k4 (l0_0.length : Int) (((qaM l0_2 qbk).length : Int) == (l0_0.length : Int)) (qaM l0_2 qbk) l0_2 (l0_2.length : Int) qbk l0_0 l0_1 l0_2) = some r := by rw [if_pos rfl] at H; exact H
          clear H; have H := H1; clear H1; have H' := qaa.mk H; clear H
          go_wp2
          go_meet
          case rel => exact ⟨_, ((((qaM l0_2 qbk).length : Int) == (l0_0.length : Int))), (by first | rfl | (simp; done) | (simp [*]; done)), H', ⟨by have := HJ1.out; have := HK2.out; have := HJ10.out; have := HK4.out; first | omega | exact Nat.le_refl _⟩, ⟨by (with_reducible repeat (first | refine qac ?_ _ | refine qae ?_ | refine qab ?_ _)); exact qbv.out⟩, ⟨by repeat (first | (with_reducible first | exact HB.out | apply qag | apply qad | apply qah | refine qaf ?_ qd7.out) | exact HB.out)⟩⟩
         replace c30 := Bool.eq_false_iff.mpr c30; subst c30
         have H1 : (qaF.j4 k4 (l0_0.length : Int) false (qaM l0_2 qbk) l0_2 (l0_2.length : Int) qbk l0_0 l0_1 l0_2) = some r := by rw [if_neg (show ¬ (false = true) by decide)] at H; exact H
         clear H; have H := H1; clear H1; have H' := qaa.mk H; clear H
         go_wp2
         go_meet
         case rel => exact ⟨_, (false), (by first | rfl | (simp; done) | (simp [*]; done)), H', ⟨by have := HJ1.out; have := HK2.out; have := HJ10.out; have := HK4.out; first | omega | exact Nat.le_refl _⟩, ⟨by (with_reducible repeat (first | refine qac ?_ _ | refine qae ?_ | refine qab ?_ _)); exact qbv.out⟩, ⟨by repeat (first | (with_reducible first | exact HB.out | apply qag | apply qad | apply qah | refine qaf ?_ qd7.out) | exact HB.out)⟩⟩
        clear HC29; (try clear c1); (try clear p1); (try clear q1); (try clear hx1); (try clear c2); (try clear p2); (try clear c3); (try clear c6); (try clear p6); (try clear c7); (try clear c7b0); (try clear c7b1); (try clear c7b2); (try clear c12); (try clear c13); (try clear c14); (try clear c14b0); (try clear c15); (try clear c15b0); (try clear c17); (try clear c18); (try clear c18b0); (try clear c19); (try clear p19); (try clear q19); (try clear hx19); (try clear c26); (try clear c26b0); (try clear c27); (try clear c27b0); (try clear c28); (try clear c28b0); (try clear c30); (try clear qeV); (try clear qeW); (try clear qfa); (try clear qje); (try clear qjf); (try clear qjg); (try clear qit); (try clear qiu); (try clear qiv); (try clear qjh); (try clear qji); (try clear qjj); (try clear qjk); (try clear qjl); (try clear qjm); (try clear qeL); (try clear qeM); (try clear qe0); (try clear qdR); (try clear qdS); (try clear qe1); (try clear qeX); (try clear qeY); (try clear qfb); (try clear qjq); (try clear qjr); (try clear qjs); (try clear qiy); (try clear qiz); (try clear qiA); (try clear qjt); (try clear qju); (try clear qjv); (try clear qjw); (try clear qjx); (try clear qjy); (try clear qeN); (try clear qeO); (try clear qe2); (try clear qdT); (try clear qdU); (try clear qe3); (try clear qfc); (try clear qfd); (try clear qfe); (try clear qff); (try clear qfg); (try clear qhp); (try clear qhP); (try clear p1); (try clear p19); (try clear p190); (try clear p192); (try clear p194); (try clear p2); (try clear p6); (try clear q1); (try clear q19); (try clear q190); (try clear q192); (try clear q194); obtain ⟨kq, qnL, rfl, HA, HJ28, qbv, HB⟩ := hcut
        cases kq with
        | zero => exact absurd HA.out (by simp [qaF.j4])
        | succ kj28 =>
         have H := HA.out; clear HA; simp only [qaF.j4] at H; have H' := qaa.mk H; clear H
         go_wp2
         go_loopg [4, 69] kj28 (fun kq v4 v69 w' => ∃ (x4_6 : Bool) (qb8 : Int), v4 = .bool x4_6 ∧ v69 = .int .i64 qb8 ∧ qaa (qaF.l2 kq (l0_0.length : Int) x4_6 l0_2 (l0_2.length : Int) qbk (qaM l0_2 qbk) ((qaM l0_2 qbk).length : Int) qb8 l0_0 l0_1 l0_2 = some r) ∧ qaa (kq ≤ kj28) ∧ qaa (w'.heap[qdg]? = some (.cells #[(.slice A0_0 l0_0.length c0_0), (.slice A0_1 l0_1.length c0_1), (.slice (some qkw) l0_2.length c0_2)] 47 (0, 0))) ∧ qaa (Below w.heap.size w w'))
         case atStart => exact ⟨(qnL), (0), (by first | rfl | (simp; done) | (simp [*]; done)), (by first | rfl | (simp; done) | (simp [*]; done)), H', ⟨Nat.le_refl _⟩, ⟨by (with_reducible repeat (first | refine qac ?_ _ | refine qae ?_ | refine qab ?_ _)); exact qbv.out⟩, ⟨by repeat (first | (with_reducible first | exact HB.out | apply qag | apply qad | apply qah | refine qaf ?_ qd7.out) | exact HB.out)⟩⟩
         clear H'; (try clear c1); (try clear p1); (try clear q1); (try clear hx1); (try clear c2); (try clear p2); (try clear c3); (try clear c6); (try clear p6); (try clear c7); (try clear c7b0); (try clear c7b1); (try clear c7b2); (try clear c12); (try clear c13); (try clear c14); (try clear c14b0); (try clear c15); (try clear c15b0); (try clear c17); (try clear c18); (try clear c18b0); (try clear c19); (try clear p19); (try clear q19); (try clear hx19); (try clear c26); (try clear c26b0); (try clear c27); (try clear c27b0); (try clear c28); (try clear c28b0); (try clear c30); (try clear qeV); (try clear qeW); (try clear qfa); (try clear qje); (try clear qjf); (try clear qjg); (try clear qit); (try clear qiu); (try clear qiv); (try clear qjh); (try clear qji); (try clear qjj); (try clear qjk); (try clear qjl); (try clear qjm); (try clear qeL); (try clear qeM); (try clear qe0); (try clear qdR); (try clear qdS); (try clear qe1); (try clear qeX); (try clear qeY); (try clear qfb); (try clear qjq); (try clear qjr); (try clear qjs); (try clear qiy); (try clear qiz); (try clear qiA); (try clear qjt); (try clear qju); (try clear qjv); (try clear qjw); (try clear qjx); (try clear qjy); (try clear qeN); (try clear qeO); (try clear qe2); (try clear qdT); (try clear qdU); (try clear qe3); (try clear qfc); (try clear qfd); (try clear qfe); (try clear qff); (try clear qfg); (try clear qhp); (try clear qhP); (try clear p1); (try clear p19); (try clear p190); (try clear p192); (try clear p194); (try clear p2); (try clear p6); (try clear q1); (try clear q19); (try clear q190); (try clear q192); (try clear q194); obtain ⟨x4_6, qb8, rfl, rfl, HA, HK6, qbv, HB⟩ := hrel
         cases gk with
         | zero => exact absurd HA.out (by simp [qaF.l2])
         | succ k6 =>
          have H := HA.out; clear HA; simp only [qaF.l2] at H
          by_cases c31 : qb8 < ((qaM l0_2 qbk).length : Int)
          ·
           rw [if_pos c31] at H; have c31b0 : decide (qb8 < ((qaM l0_2 qbk).length : Int)) = true := decide_eq_true c31; clear c31
           by_cases c32 : 0 ≤ qb8
           ·
            rw [if_pos c32] at H; have c32b0 : decide (0 ≤ qb8) = true := decide_eq_true c32; clear c32
            by_cases c33 : qb8 < ((qaM l0_2 qbk).length : Int)
            ·
             rw [if_pos c33] at H; have c33b0 : decide (qb8 < ((qaM l0_2 qbk).length : Int)) = true := decide_eq_true c33; clear c33; have HC34 := qaa.mk H; clear H; have p195 : 0 ≤ (qb8 : Int) := of_decide_eq_true (by first | (with_reducible assumption) | assumption); have q195 : qb8 < ((qaM l0_2 qbk).length : Int) := of_decide_eq_true (by first | (with_reducible assumption) | assumption); obtain ⟨qCM, qBT, qBY, e195, qjK, qoY, qoP⟩ := qnF qrK.out qb8 p195 q195; cases e195; replace qjK := (HB.out.cell (World.block_lt_of_cell? w _ qjK)).trans qjK; have qoA := qaa.mk qoP; have qwd := qaa.mk qoY; clear qoP qoY; replace p195 := eq_true p195; replace q195 := eq_true q195
             go_upto_region 14 with (fail)
             go_cut [4] (fun v4 wc => ∃ (kq : Nat) (qnM : Bool), v4 = .bool qnM ∧ qaa (qaF.j6 kq (l0_0.length : Int) qnM (qa2 (qaM l0_2 qbk) qb8) l0_2 (l0_2.length : Int) qbk (qaM l0_2 qbk) ((qaM l0_2 qbk).length : Int) qb8 l0_0 l0_1 l0_2 = some r) ∧ qaa (kq ≤ k6) ∧ qaa (wc.heap[qdg]? = some (.cells #[(.slice A0_0 l0_0.length c0_0), (.slice A0_1 l0_1.length c0_1), (.slice (some qkw) l0_2.length c0_2)] 47 (0, 0))) ∧ qaa (Below w.heap.size w wc))
             case first =>
              have H := HC34.out; clear HC34
              by_cases c35 : x4_6 = true
              ·
               subst c35
               have H1 : ((qaD.f ((qa2 (qaM l0_2 qbk) qb8).length : Int) 1 10).bind fun t196 => (if t196 = true then (if 0 < (l0_2.length : Int) then (if 0 < ((qaM l0_2 0).length : Int) then (qaF.j6 k6 (l0_0.length : Int) (((qa2 (qaM l0_2 qbk) qb8).length : Int) == ((qa2 (qaM l0_2 0) 0).length : Int)) (qa2 (qaM l0_2 qbk) qb8) l0_2 (l0_2.length : Int) qbk (qaM l0_2 qbk) ((qaM l0_2 qbk).length : Int) qb8 l0_0 l0_1 l0_2) else (none)) else (none)) else (qaF.j6 k6 (l0_0.length : Int) false (qa2 (qaM l0_2 qbk) qb8) l0_2 (l0_2.length : Int) qbk (qaM l0_2 qbk) ((qaM l0_2 qbk).length : Int) qb8 l0_0 l0_1 l0_2))) = some r := by rw [if_pos rfl] at H; exact H
               clear H; have H := H1; clear H1; replace H := Option.bind_eq_some_iff.mp H; obtain ⟨t196, A360, H⟩ := H; replace H : (if t196 = true then (if 0 < (l0_2.length : Int) then (if 0 < ((qaM l0_2 0).length : Int) then (qaF.j6 k6 (l0_0.length : Int) (((qa2 (qaM l0_2 qbk) qb8).length : Int) == ((qa2 (qaM l0_2 0) 0).length : Int)) (qa2 (qaM l0_2 qbk) qb8) l0_2 (l0_2.length : Int) qbk (qaM l0_2 qbk) ((qaM l0_2 qbk).length : Int) qb8 l0_0 l0_1 l0_2) else (none)) else (none)) else (qaF.j6 k6 (l0_0.length : Int) false (qa2 (qaM l0_2 qbk) qb8) l0_2 (l0_2.length : Int) qbk (qaM l0_2 qbk) ((qaM l0_2 qbk).length : Int) qb8 l0_0 l0_1 l0_2)) = some r := H; have A36 := qaa.mk A360; clear A360
               by_cases c37 : t196 = true
               ·
                subst c37
                have H1 : (if 0 < (l0_2.length : Int) then (if 0 < ((qaM l0_2 0).length : Int) then (qaF.j6 k6 (l0_0.length : Int) (((qa2 (qaM l0_2 qbk) qb8).length : Int) == ((qa2 (qaM l0_2 0) 0).length : Int)) (qa2 (qaM l0_2 qbk) qb8) l0_2 (l0_2.length : Int) qbk (qaM l0_2 qbk) ((qaM l0_2 qbk).length : Int) qb8 l0_0 l0_1 l0_2) else (none)) else (none)) = some r := by rw [if_pos rfl] at H; exact H
                clear H; have H := H1; clear H1
                by_cases c38 : 0 < (l0_2.length : Int)
                ·
                 rw [if_pos c38] at H; have c38b0 : decide (0 < (l0_2.length : Int)) = true := decide_eq_true c38; have c38b1 : decide (0 < l0_2.length) = true := decide_eq_true (by omega); clear c38
                 (first | rw [c38b0] | (simp only [qaB, qaC]; rw [c38b0]) | skip)
                 by_cases c39 : 0 < ((qaM l0_2 0).length : Int)
                 ·
                  rw [if_pos c39] at H; have c39b0 : decide (0 < ((qaM l0_2 0).length : Int)) = true := decide_eq_true c39; have c39b1 : decide (0 < (qaM l0_2 0).length) = true := decide_eq_true (by omega); clear c39; have H' := qaa.mk H; clear H
                  go_wp2_with (first | (go_at_call 65; (with_reducible refine (qaD.calls ((qa2 (qaM l0_2 qbk) qb8).length : Int) 1 10 true _ A36.out).mono ?_); rintro e w' ⟨rfl, ⟨nd, rfl⟩⟩; have qkH : wr.cell? ⟨qdg, 0, none⟩ = some (.slice A0_0 l0_0.length c0_0) := (qai qbv.out 0).trans rfl; have qkI : wr.cell? ⟨qdg, 1, none⟩ = some (.slice A0_1 l0_1.length c0_1) := (qai qbv.out 1).trans rfl; have qkJ : wr.cell? ⟨qdg, 2, none⟩ = some (.slice (some qkw) l0_2.length c0_2) := (qai qbv.out 2).trans rfl; have qkS := qaj qbv.out 0; have qkT := qaj qbv.out 1; have qkU := qaj qbv.out 2; have p197 : 0 ≤ (0 : Int) := (by omega); have q197 : 0 < (l0_2.length : Int) := of_decide_eq_true (by first | (with_reducible assumption) | assumption); obtain ⟨qun, qBU, qBZ, e197, qhQ, qoZ, qoQ⟩ := qpu qdv.out 0 p197 q197; obtain rfl : qkw = qun := (by injection e197); have qEw : (0 < l0_2.length) = True := eq_true (by omega); (try rw [show ((0 : Int)).toNat = 0 from rfl] at qhQ); (try rw [Addr.add_zero'] at qhQ); replace qhQ := (HB.out.cell (World.block_lt_of_cell? w _ qhQ)).trans qhQ; have qrL := qaa.mk qoQ; have qwe := qaa.mk qoZ; clear qoQ qoZ; replace p197 := eq_true p197; replace q197 := eq_true q197; have p198 : 0 ≤ (0 : Int) := (by omega); have q198 : 0 < ((qaM l0_2 0).length : Int) := of_decide_eq_true (by first | (with_reducible assumption) | assumption); obtain ⟨qCN, qBV, qB0, e198, qhR, qo0, qoR⟩ := qnF qrL.out 0 p198 q198; cases e198; have qEx : (0 < (qaM l0_2 0).length) = True := eq_true (by omega); (try rw [show ((0 : Int)).toNat = 0 from rfl] at qhR); (try rw [Addr.add_zero'] at qhR); replace qhR := (HB.out.cell (World.block_lt_of_cell? w _ qhR)).trans qhR; have qwh := qaa.mk qoR; have qwf := qaa.mk qo0; clear qoR qo0; replace p198 := eq_true p198; replace q198 := eq_true q198))
                  go_meet
                  case rel => exact ⟨_, ((((qa2 (qaM l0_2 qbk) qb8).length : Int) == ((qa2 (qaM l0_2 0) 0).length : Int))), (by first | rfl | (simp; done) | (simp [*]; done)), H', ⟨by have := HJ1.out; have := HK2.out; have := HJ10.out; have := HK4.out; have := HJ28.out; have := HK6.out; first | omega | exact Nat.le_refl _⟩, ⟨by (with_reducible repeat (first | refine qac ?_ _ | refine qae ?_ | refine qab ?_ _)); exact qbv.out⟩, ⟨by repeat (first | (with_reducible first | exact HB.out | apply qag | apply qad | apply qah | refine qaf ?_ qd7.out) | exact HB.out)⟩⟩
                 rw [if_neg c39] at H
                 exact absurd H (by simp)
                rw [if_neg c38] at H
                exact absurd H (by simp)
               replace c37 := Bool.eq_false_iff.mpr c37; subst c37
               have H1 : (qaF.j6 k6 (l0_0.length : Int) false (qa2 (qaM l0_2 qbk) qb8) l0_2 (l0_2.length : Int) qbk (qaM l0_2 qbk) ((qaM l0_2 qbk).length : Int) qb8 l0_0 l0_1 l0_2) = some r := by rw [if_neg (show ¬ (false = true) by decide)] at H; exact H
               clear H; have H := H1; clear H1; have H' := qaa.mk H; clear H
               go_wp2_with (first | (go_at_call 65; (with_reducible refine (qaD.calls ((qa2 (qaM l0_2 qbk) qb8).length : Int) 1 10 false _ A36.out).mono ?_); rintro e w' ⟨rfl, ⟨nd, rfl⟩⟩))
               go_meet
               case rel => exact ⟨_, (false), (by first | rfl | (simp; done) | (simp [*]; done)), H', ⟨by have := HJ1.out; have := HK2.out; have := HJ10.out; have := HK4.out; have := HJ28.out; have := HK6.out; first | omega | exact Nat.le_refl _⟩, ⟨by (with_reducible repeat (first | refine qac ?_ _ | refine qae ?_ | refine qab ?_ _)); exact qbv.out⟩, ⟨by repeat (first | (with_reducible first | exact HB.out | apply qag | apply qad | apply qah | refine qaf ?_ qd7.out) | exact HB.out)⟩⟩
              replace c35 := Bool.eq_false_iff.mpr c35; subst c35
              have H1 : (qaF.j6 k6 (l0_0.length : Int) false (qa2 (qaM l0_2 qbk) qb8) l0_2 (l0_2.length : Int) qbk (qaM l0_2 qbk) ((qaM l0_2 qbk).length : Int) qb8 l0_0 l0_1 l0_2) = some r := by rw [if_neg (show ¬ (false = true) by decide)] at H; exact H
              clear H; have H := H1; clear H1; have H' := qaa.mk H; clear H
              go_wp2
              go_meet
              case rel => exact ⟨_, (false), (by first | rfl | (simp; done) | (simp [*]; done)), H', ⟨by have := HJ1.out; have := HK2.out; have := HJ10.out; have := HK4.out; have := HJ28.out; have := HK6.out; first | omega | exact Nat.le_refl _⟩, ⟨by (with_reducible repeat (first | refine qac ?_ _ | refine qae ?_ | refine qab ?_ _)); exact qbv.out⟩, ⟨by repeat (first | (with_reducible first | exact HB.out | apply qag | apply qad | apply qah | refine qaf ?_ qd7.out) | exact HB.out)⟩⟩
             clear HC34; (try clear c1); (try clear p1); (try clear q1); (try clear hx1); (try clear qi1); (try clear c2); (try clear p2); (try clear c3); (try clear c6); (try clear p6); (try clear c7); (try clear c7b0); (try clear c7b1); (try clear c7b2); (try clear c12); (try clear c13); (try clear c14); (try clear c14b0); (try clear c15); (try clear c15b0); (try clear c17); (try clear c18); (try clear c18b0); (try clear c19); (try clear p19); (try clear q19); (try clear hx19); (try clear qi19); (try clear c26); (try clear c26b0); (try clear c27); (try clear c27b0); (try clear c28); (try clear c28b0); (try clear c30); (try clear c31); (try clear c31b0); (try clear c32); (try clear c32b0); (try clear c33); (try clear c33b0); (try clear c35); (try clear c37); (try clear c38); (try clear c38b0); (try clear c38b1); (try clear c39); (try clear c39b0); (try clear c39b1); (try clear qeV); (try clear qeW); (try clear qfa); (try clear qje); (try clear qjf); (try clear qjg); (try clear qit); (try clear qiu); (try clear qiv); (try clear qjh); (try clear qji); (try clear qjj); (try clear qjk); (try clear qjl); (try clear qjm); (try clear qkH); (try clear qkI); (try clear qkJ); (try clear qeL); (try clear qeM); (try clear qe0); (try clear qdR); (try clear qdS); (try clear qe1); (try clear qeX); (try clear qeY); (try clear qfb); (try clear qjq); (try clear qjr); (try clear qjs); (try clear qiy); (try clear qiz); (try clear qiA); (try clear qjt); (try clear qju); (try clear qjv); (try clear qjw); (try clear qjx); (try clear qjy); (try clear qkS); (try clear qkT); (try clear qkU); (try clear qeN); (try clear qeO); (try clear qe2); (try clear qdT); (try clear qdU); (try clear qe3); (try clear qfc); (try clear qfd); (try clear qfe); (try clear qff); (try clear qfg); (try clear qhp); (try clear qhP); (try clear qjK); (try clear qhQ); (try clear qhR); (try clear p1); (try clear p19); (try clear p190); (try clear p192); (try clear p194); (try clear p195); (try clear p197); (try clear p198); (try clear p2); (try clear p6); (try clear q1); (try clear q19); (try clear q190); (try clear q192); (try clear q194); (try clear q195); (try clear q197); (try clear q198); obtain ⟨kq, qnM, rfl, HA, HJ33, qbv, HB⟩ := hcut
             cases kq with
             | zero => exact absurd HA.out (by simp [qaF.j6])
             | succ kj33 =>
              have H := HA.out; clear HA; simp only [qaF.j6] at H; have H' := qaa.mk H; clear H
              go_wp2
              go_loopg [4, 93] kj33 (fun kq v4 v93 w' => ∃ (x4_8 : Bool) (qei : Int), v4 = .bool x4_8 ∧ v93 = .int .i64 qei ∧ qaa (qaF.l3 kq (l0_0.length : Int) x4_8 l0_2 (l0_2.length : Int) qbk (qaM l0_2 qbk) ((qaM l0_2 qbk).length : Int) qb8 (qa2 (qaM l0_2 qbk) qb8) ((qa2 (qaM l0_2 qbk) qb8).length : Int) qei l0_0 l0_1 l0_2 = some r) ∧ qaa (kq ≤ kj33) ∧ qaa (w'.heap[qdg]? = some (.cells #[(.slice A0_0 l0_0.length c0_0), (.slice A0_1 l0_1.length c0_1), (.slice (some qkw) l0_2.length c0_2)] 47 (0, 0))) ∧ qaa (Below w.heap.size w w'))
              case atStart => exact ⟨(qnM), (0), (by first | rfl | (simp; done) | (simp [*]; done)), (by first | rfl | (simp; done) | (simp [*]; done)), H', ⟨Nat.le_refl _⟩, ⟨by (with_reducible repeat (first | refine qac ?_ _ | refine qae ?_ | refine qab ?_ _)); exact qbv.out⟩, ⟨by repeat (first | (with_reducible first | exact HB.out | apply qag | apply qad | apply qah | refine qaf ?_ qd7.out) | exact HB.out)⟩⟩
              clear H'; (try clear c1); (try clear p1); (try clear q1); (try clear hx1); (try clear qi1); (try clear c2); (try clear p2); (try clear c3); (try clear c6); (try clear p6); (try clear c7); (try clear c7b0); (try clear c7b1); (try clear c7b2); (try clear c12); (try clear c13); (try clear c14); (try clear c14b0); (try clear c15); (try clear c15b0); (try clear c17); (try clear c18); (try clear c18b0); (try clear c19); (try clear p19); (try clear q19); (try clear hx19); (try clear qi19); (try clear c26); (try clear c26b0); (try clear c27); (try clear c27b0); (try clear c28); (try clear c28b0); (try clear c30); (try clear c31); (try clear c31b0); (try clear c32); (try clear c32b0); (try clear c33); (try clear c33b0); (try clear c35); (try clear c37); (try clear c38); (try clear c38b0); (try clear c38b1); (try clear c39); (try clear c39b0); (try clear c39b1); (try clear qeV); (try clear qeW); (try clear qfa); (try clear qje); (try clear qjf); (try clear qjg); (try clear qit); (try clear qiu); (try clear qiv); (try clear qjh); (try clear qji); (try clear qjj); (try clear qjk); (try clear qjl); (try clear qjm); (try clear qkH); (try clear qkI); (try clear qkJ); (try clear qeL); (try clear qeM); (try clear qe0); (try clear qdR); (try clear qdS); (try clear qe1); (try clear qeX); (try clear qeY); (try clear qfb); (try clear qjq); (try clear qjr); (try clear qjs); (try clear qiy); (try clear qiz); (try clear qiA); (try clear qjt); (try clear qju); (try clear qjv); (try clear qjw); (try clear qjx); (try clear qjy); (try clear qkS); (try clear qkT); (try clear qkU); (try clear qeN); (try clear qeO); (try clear qe2); (try clear qdT); (try clear qdU); (try clear qe3); (try clear qfc); (try clear qfd); (try clear qfe); (try clear qff); (try clear qfg); (try clear qhp); (try clear qhP); (try clear qjK); (try clear qhQ); (try clear qhR); (try clear p1); (try clear p19); (try clear p190); (try clear p192); (try clear p194); (try clear p195); (try clear p197); (try clear p198); (try clear p2); (try clear p6); (try clear q1); (try clear q19); (try clear q190); (try clear q192); (try clear q194); (try clear q195); (try clear q197); (try clear q198); obtain ⟨x4_8, qei, rfl, rfl, HA, HK8, qbv, HB⟩ := hrel
              cases gk with
              | zero => exact absurd HA.out (by simp [qaF.l3])
              | succ k8 =>
               have H := HA.out; clear HA; simp only [qaF.l3] at H
               by_cases c41 : qei < ((qa2 (qaM l0_2 qbk) qb8).length : Int)
               ·
                rw [if_pos c41] at H; have c41b0 : decide (qei < ((qa2 (qaM l0_2 qbk) qb8).length : Int)) = true := decide_eq_true c41; clear c41
                by_cases c42 : 0 ≤ qei
                ·
                 rw [if_pos c42] at H; have c42b0 : decide (0 ≤ qei) = true := decide_eq_true c42; clear c42
                 by_cases c43 : qei < ((qa2 (qaM l0_2 qbk) qb8).length : Int)
                 ·
                  rw [if_pos c43] at H; have c43b0 : decide (qei < ((qa2 (qaM l0_2 qbk) qb8).length : Int)) = true := decide_eq_true c43; clear c43
                  by_cases c44 : x4_8 = true
                  ·
                   subst c44
                   have H1 : ((qaD.f (rd (qa2 (qaM l0_2 qbk) qb8) qei) 0 100000).bind fun t200 => (qaF.l3 k8 (l0_0.length : Int) t200 l0_2 (l0_2.length : Int) qbk (qaM l0_2 qbk) ((qaM l0_2 qbk).length : Int) qb8 (qa2 (qaM l0_2 qbk) qb8) ((qa2 (qaM l0_2 qbk) qb8).length : Int) (wrap64 (qei + 1)) l0_0 l0_1 l0_2)) = some r := by rw [if_pos rfl] at H; exact H
                   clear H; have H := H1; clear H1; replace H := Option.bind_eq_some_iff.mp H; obtain ⟨t200, A450, H⟩ := H; replace H : (qaF.l3 k8 (l0_0.length : Int) t200 l0_2 (l0_2.length : Int) qbk (qaM l0_2 qbk) ((qaM l0_2 qbk).length : Int) qb8 (qa2 (qaM l0_2 qbk) qb8) ((qa2 (qaM l0_2 qbk) qb8).length : Int) (wrap64 (qei + 1)) l0_0 l0_1 l0_2) = some r := H; have A45 := qaa.mk A450; clear A450; have H' := qaa.mk H; clear H; have p199 : 0 ≤ (qei : Int) := of_decide_eq_true (by first | (with_reducible assumption) | assumption); have q199 : qei < ((qa2 (qaM l0_2 qbk) qb8).length : Int) := of_decide_eq_true (by first | (with_reducible assumption) | assumption); obtain ⟨qup, e199, qhS⟩ := Kd.at_int qoA.out qei p199 q199; cases e199; replace qhS := (HB.out.cell (World.block_lt_of_cell? w _ qhS)).trans qhS; replace p199 := eq_true p199; replace q199 := eq_true q199
                   go_wp2_with (first | (go_at_call 65; (with_reducible refine (qaD.calls (rd (qa2 (qaM l0_2 qbk) qb8) qei) 0 100000 t200 _ A45.out).mono ?_); rintro e w' ⟨rfl, ⟨nd, rfl⟩⟩))
                   go_roundg k8
                   case measure => have := HJ1.out; have := HK2.out; have := HJ10.out; have := HK4.out; have := HJ28.out; have := HK6.out; have := HJ33.out; have := HK8.out; omega
                   case rel => exact ⟨(t200), (wrap64 (qei + 1)), (by first | rfl | (simp; done) | (simp [*]; done)), (by first | rfl | (simp; done) | (simp [*]; done)), H', ⟨by have := HJ1.out; have := HK2.out; have := HJ10.out; have := HK4.out; have := HJ28.out; have := HK6.out; have := HJ33.out; have := HK8.out; omega⟩, ⟨by (with_reducible repeat (first | refine qac ?_ _ | refine qae ?_ | refine qab ?_ _)); exact qbv.out⟩, ⟨by repeat (first | (with_reducible first | exact HB.out | apply qag | apply qad | apply qah | refine qaf ?_ qd7.out) | exact HB.out)⟩⟩
                  replace c44 := Bool.eq_false_iff.mpr c44; subst c44
                  have H1 : (qaF.l3 k8 (l0_0.length : Int) false l0_2 (l0_2.length : Int) qbk (qaM l0_2 qbk) ((qaM l0_2 qbk).length : Int) qb8 (qa2 (qaM l0_2 qbk) qb8) ((qa2 (qaM l0_2 qbk) qb8).length : Int) (wrap64 (qei + 1)) l0_0 l0_1 l0_2) = some r := by rw [if_neg (show ¬ (false = true) by decide)] at H; exact H
                  clear H; have H := H1; clear H1; have H' := qaa.mk H; clear H; have p199 : 0 ≤ (qei : Int) := of_decide_eq_true (by first | (with_reducible assumption) | assumption); have q199 : qei < ((qa2 (qaM l0_2 qbk) qb8).length : Int) := of_decide_eq_true (by first | (with_reducible assumption) | assumption); obtain ⟨qup, e199, qhS⟩ := Kd.at_int qoA.out qei p199 q199; cases e199; replace qhS := (HB.out.cell (World.block_lt_of_cell? w _ qhS)).trans qhS; replace p199 := eq_true p199; replace q199 := eq_true q199
                  go_wp2
                  go_roundg k8
                  case measure => have := HJ1.out; have := HK2.out; have := HJ10.out; have := HK4.out; have := HJ28.out; have := HK6.out; have := HJ33.out; have := HK8.out; omega
                  case rel => exact ⟨(false), (wrap64 (qei + 1)), (by first | rfl | (simp; done) | (simp [*]; done)), (by first | rfl | (simp; done) | (simp [*]; done)), H', ⟨by have := HJ1.out; have := HK2.out; have := HJ10.out; have := HK4.out; have := HJ28.out; have := HK6.out; have := HJ33.out; have := HK8.out; omega⟩, ⟨by (with_reducible repeat (first | refine qac ?_ _ | refine qae ?_ | refine qab ?_ _)); exact qbv.out⟩, ⟨by repeat (first | (with_reducible first | exact HB.out | apply qag | apply qad | apply qah | refine qaf ?_ qd7.out) | exact HB.out)⟩⟩
                 rw [if_neg c43] at H
                 exact absurd H (by simp)
                rw [if_neg c42] at H
                exact absurd H (by simp)
               rw [if_neg c41] at H; have c41b0 : decide (qei < ((qa2 (qaM l0_2 qbk) qb8).length : Int)) = false := decide_eq_false c41; clear c41; have H' := qaa.mk H; clear H
               go_wp2
               go_roundg k8
               case measure => have := HJ1.out; have := HK2.out; have := HJ10.out; have := HK4.out; have := HJ28.out; have := HK6.out; have := HJ33.out; have := HK8.out; omega
               case rel => exact ⟨(x4_8), (wrap64 (qb8 + 1)), (by first | rfl | (simp; done) | (simp [*]; done)), (by first | rfl | (simp; done) | (simp [*]; done)), H', ⟨by have := HJ1.out; have := HK2.out; have := HJ10.out; have := HK4.out; have := HJ28.out; have := HK6.out; have := HJ33.out; have := HK8.out; omega⟩, ⟨by (with_reducible repeat (first | refine qac ?_ _ | refine qae ?_ | refine qab ?_ _)); exact qbv.out⟩, ⟨by repeat (first | (with_reducible first | exact HB.out | apply qag | apply qad | apply qah | refine qaf ?_ qd7.out) | exact HB.out)⟩⟩
            rw [if_neg c33] at H
            exact absurd H (by simp)
           rw [if_neg c32] at H
           exact absurd H (by simp)
          rw [if_neg c31] at H; have c31b0 : decide (qb8 < ((qaM l0_2 qbk).length : Int)) = false := decide_eq_false c31; clear c31; have H' := qaa.mk H; clear H
          go_wp2
          go_roundg k6
          case measure => have := HJ1.out; have := HK2.out; have := HJ10.out; have := HK4.out; have := HJ28.out; have := HK6.out; omega
          case rel => exact ⟨(x4_6), (wrap64 (qbk + 1)), (by first | rfl | (simp; done) | (simp [*]; done)), (by first | rfl | (simp; done) | (simp [*]; done)), H', ⟨by have := HJ1.out; have := HK2.out; have := HJ10.out; have := HK4.out; have := HJ28.out; have := HK6.out; omega⟩, ⟨by (with_reducible repeat (first | refine qac ?_ _ | refine qae ?_ | refine qab ?_ _)); exact qbv.out⟩, ⟨by repeat (first | (with_reducible first | exact HB.out | apply qag | apply qad | apply qah | refine qaf ?_ qd7.out) | exact HB.out)⟩⟩
       rw [if_neg c28] at H
       exact absurd H (by simp)
      rw [if_neg c27] at H
      exact absurd H (by simp)
     rw [if_neg c26] at H; have c26b0 : decide (qbk < (l0_2.length : Int)) = false := decide_eq_false c26; clear c26
     by_cases c46 : x4_4 = true
     ·
      subst c46
      have H1 : (some 0) = some r := by rw [if_pos rfl] at H; exact H
      clear H; have H := H1; clear H1; obtain rfl := Option.some.inj H
      go_wp2
      go_ret
      exact ⟨by first | rfl | (simp [qaO, qaP] <;> rfl) | (simp [*, qaO, qaP] <;> rfl), by repeat (first | (with_reducible first | exact HB.out | apply qag | apply qad | apply qah | refine qaf ?_ qd7.out) | exact HB.out)⟩
     replace c46 := Bool.eq_false_iff.mpr c46; subst c46
     have H1 : (some 93) = some r := by rw [if_neg (show ¬ (false = true) by decide)] at H; exact H
     clear H; have H := H1; clear H1; obtain rfl := Option.some.inj H
     go_wp2
     go_ret
     exact ⟨by first | rfl | (simp [qaO, qaP] <;> rfl) | (simp [*, qaO, qaP] <;> rfl), by repeat (first | (with_reducible first | exact HB.out | apply qag | apply qad | apply qah | refine qaf ?_ qd7.out) | exact HB.out)⟩
end Go.Proofs.Ytmhomdohhihlcaa.P
namespace Go.Proofs.Ytmhomdohhihlcaa.P
open Go.RowKit Go.Proofs.YtmhomdohhihlcaaW.PrintWords Go.Proofs.YtmhomdohhihlcaaW.PrintLast Go.Proofs.YtmhomdohhihlcaaW.PrintMore
theorem qp2 (b : Nat) (x q : Int) (w : World) (hq : w.cell? ⟨b, 0, none⟩ = some (.int .i64 q)) :
  Calls Try.prog 103 #[.int .i64 x, .pointer (some ⟨b, 0, none⟩)] w fun e w' => e = .returned (.bool (x != q)) ∧ w = w' := by
 go_enter Try.func103, Try.ntmps103
 go_wp2
 go_ret
 exact ⟨rfl, rfl⟩
set_option maxHeartbeats 4000000 in
set_option maxRecDepth 100000 in
theorem indexFunc_103.calls (A : Option Addr) (c : Nat) (l : List Int) (b : Nat) (q : Int) (w : World) (hr : Kd.C (Kd.int .i64) w A l.length l) (hq : w.cell? ⟨b, 0, none⟩ = some (.int .i64 q)) :
  Calls Try.prog 113 #[.slice A l.length c, .func (.func 103) #[] #[.pointer (some ⟨b, 0, none⟩)]] w fun e w' => (∃ r : Int, e = .returned (.int .i64 r) ∧ decide (0 ≤ r) = l.any (fun z => z != q)) ∧ qbF w w' := by
 have HR := qaa.mk hr
 have hmx : l.length ≤ 9223372036854775807 := hr.2.1
 clear hr
 go_enter Try.func113, Try.ntmps113
 go_wp2
 go_loopg [8] l.length (fun d v8 w' => ∃ (x : Int) (k : Nat), v8 = .int .i64 x ∧ qaa (x = (k : Int)) ∧ qaa (k + d = l.length) ∧ qaa ((l.take k).any (fun z => z != q) = false) ∧ qbF w w')
 case atStart => exact ⟨_, 0, rfl, ⟨rfl⟩, ⟨Nat.zero_add _⟩, ⟨by simp⟩, qbF.refl _⟩
 case round =>
  obtain ⟨x, k, rfl, HX, HD, HN, ⟨m1, rfl⟩⟩ := hrel
  by_cases hk : x < (l.length : Int)
  ·
   have hx0 : 0 ≤ x := by have := HX.out; omega
   obtain ⟨ad, ea, hA⟩ := Kd.at_int HR.out x hx0 hk
   subst ea
   have hkl : k < l.length := by have := HX.out; omega
   have HEL := qaa.mk (show rd l x = l[k] by rw [HX.out]; simp [rd, List.getD_eq_getElem?_getD, List.getElem?_eq_getElem hkl])
   have HTK := qaa.mk (show (l.take (k + 1)).any (fun z => z != q) = ((l.take k).any (fun z => z != q) || (fun z => z != q) (rd l x)) by rw [List.take_succ_eq_append_getElem hkl, List.any_append, HEL.out]; simp)
   by_cases hp : (fun z => z != q) (rd l x) = true
   ·
    have HP := qaa.mk hp; have hb : (rd l x != q) = true := HP.out; clear hp
    go_wp2_with (go_at_call 103; refine (qp2 b (rd l x) q _ ?hc).mono ?_; (case hc => simpa using hq); rintro e w1 ⟨rfl, rfl⟩)
    go_ret
    refine ⟨⟨_, rfl, ?_⟩, ⟨_, rfl⟩⟩; rw [decide_eq_true (by simpa using hx0)]
    symm
    rw [List.any_eq_true]
    exact ⟨l[k], List.getElem_mem hkl, HEL.out ▸ HP.out⟩
   ·
    have HP := qaa.mk (Bool.eq_false_iff.2 hp); have hb : (rd l x != q) = false := HP.out; clear hp
    cases gk with
    | zero => exact absurd hk (by have := HX.out; have := HD.out; omega)
    | succ d =>
     go_wp2_with (go_at_call 103; refine (qp2 b (rd l x) q _ ?hc).mono ?_; (case hc => simpa using hq); rintro e w1 ⟨rfl, rfl⟩)
     go_roundg d
     case measure => omega
     case rel => exact ⟨_, k + 1, rfl, ⟨by rw [HX.out]; rfl⟩, ⟨by have := HD.out; omega⟩, ⟨by rw [HTK.out, HN.out, HP.out]; rfl⟩, ⟨_, rfl⟩⟩
  ·
   go_wp2
   go_ret
   refine ⟨⟨_, rfl, ?_⟩, ⟨_, rfl⟩⟩
   have hkk : k = l.length := by have := HX.out; have := HD.out; omega
   have := HN.out
   rw [hkk, List.take_length] at this
   rw [this]
   rfl
set_option maxRecDepth 100000 in
theorem containsFunc_103.calls (A : Option Addr) (c : Nat) (l : List Int) (b : Nat) (q : Int) (w : World) (hr : Kd.C (Kd.int .i64) w A l.length l) (hq : w.cell? ⟨b, 0, none⟩ = some (.int .i64 q)) :
  Calls Try.prog 102 #[.slice A l.length c, .func (.func 103) #[] #[.pointer (some ⟨b, 0, none⟩)]] w fun e w' => e = .returned (.bool (l.any (fun z => z != q))) ∧ qbF w w' := by
 go_enter Try.func102, Try.ntmps102
 go_wp2_with (go_at_call 113; refine (indexFunc_103.calls A c l b q _ ?h1 ?h2).mono ?_; (case h1 => exact hr); (case h2 => exact hq); rintro e w' ⟨⟨r, rfl, hd⟩, ⟨n1, rfl⟩⟩; have HD := qaa.mk hd; clear hd)
 go_ret
 exact ⟨congrArg (fun b_ => Ending.returned (.bool b_)) HD.out, ⟨_, rfl⟩⟩
def qd1.f (l0 : List Int) (a1 : Int) : Option Bool := some (l0.any (fun z => z != a1))
theorem containsG.calls (b : Nat) (A0 : Option Addr) (c0 n : Nat) (l0 : List Int) (a1 : Int) (r : Bool) (w : World) (hn : n = l0.length) (hr0 : Kd.C (Kd.int .i64) w A0 l0.length l0) (hc0 : l0.length ≤ c0) (hq : w.cell? ⟨b, 0, none⟩ = some (.int .i64 a1)) (h : qd1.f l0 a1 = some r) :
  Calls Try.prog 102 #[.slice A0 n c0, .func (.func 103) #[] #[.pointer (some ⟨b, 0, none⟩)]] w fun e w' => e = .returned (.bool r) ∧ qbF w w' := by
 unfold qd1.f at h
 injection h with h
 subst h hn
 exact containsFunc_103.calls A0 c0 l0 b a1 w hr0 hq
def qjZ (z : Int) : Bool := !(decide (0 ≤ z) && decide (z ≤ 100000))
theorem qB1 (x : Int) (w : World) : Calls Try.prog 110 #[.int .i64 x] w fun e w' => e = .returned (.bool (qjZ x)) ∧ w = w' := by
 by_cases h1 : 0 ≤ x
 ·
  by_cases h2 : x ≤ 100000
  ·
   go_enter Try.func110, Try.ntmps110
   go_wp2
   go_ret
   exact ⟨by simp [qjZ, h1, h2], rfl⟩
  ·
   go_enter Try.func110, Try.ntmps110
   go_wp2
   go_ret
   exact ⟨by simp [qjZ, h1, h2], rfl⟩
 ·
  go_enter Try.func110, Try.ntmps110
  go_wp2
  go_ret
  exact ⟨by simp [qjZ, h1], rfl⟩
end Go.Proofs.Ytmhomdohhihlcaa.P
