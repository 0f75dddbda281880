/- What the statement StockTruth leans on, part 2 of 6: contracts of the program's functions; conditions: none. -/
import Derived.ArgAppend
import Derived.Deep.RegionHeld3
import Derived.StillTailTactics
import Derived.Deep.DeepCutAuto
import Derived.OpenShut
import Derived.Laws.EntriesVeiled
import Derived.WalkMore
import Derived.Lib.SliceRun
import Derived.Deep.RegionLaw
import Derived.Test.YtmhomdohhihlcaaStockTruthx0
set_option linter.unusedVariables false
set_option linter.unusedSimpArgs false
set_option linter.constructorNameAsVariable false
set_option linter.unusedSectionVars false
namespace Go.Proofs.Ytmhomdohhihlcaa.P
open Go.RowKit Go.Shelf Go.Proofs.YtmhomdohhihlcaaW.PrintWords Go.Proofs.YtmhomdohhihlcaaW.PrintLast Go.Proofs.YtmhomdohhihlcaaW.PrintMore
attribute [local go_sem] Oper.semAt_some
attribute [-go_sem] Builtin.append_
def qf4 : Nat → Int → List Int → List (List Int)
 | 0, left, b => [b ++ [left]]
 | m + 1, left, b => (List.range (left.toNat + 1)).flatMap fun (n : Nat) => qf4 m (left - (n : Int)) (b ++ [(n : Int)])
theorem qlh {W : World} {B c : Nat} {A : Option Addr} {mix : List Int} (h : Kd.R (Kd.int .i64) 3 W B (fun _ => True) (.slice A mix.length c) mix) (hB : B ≤ W.heap.size) (hl : mix.length ≤ 10) (x : Int) :
  ∃ v' w', (Builtin.append_ #[37, 37] 37 #[.slice A mix.length mix.length, .slice (some ⟨W.heap.size, 0, none⟩) 1 1]).run Try.prog (W.alloc (.cells #[.int .i64 x] 3)) = .ok v' w' ∧
   Kd.R (Kd.int .i64) 3 w' B (fun _ => True) v' (mix ++ [x]) ∧ W.grownBy w' none := by
 have hC := (Kd.R_reads' h).2.2
 have hinf : (Try.prog.info? 3).map (fun i => (i.zero, i.size, i.bytes)) = some (some (.int .i64 0), 1, 8) := by kernel_rfl
 obtain ⟨i0, hi, hz0, hz1, hz2⟩ := info_parts hinf
 have hb1 : Below W.heap.size W (W.alloc (.cells #[.int .i64 x] 3)) := (Below.refl _ W).alloc (Nat.le_refl _) _
 have hnews : ∀ j u, [Value.int .i64 x][j]? = some u → (W.alloc (.cells #[.int .i64 x] 3)).cell? (Addr.add ⟨W.heap.size, 0, none⟩ j) = some u := by
  intro j u hj
  have hj0 : j = 0 := by
   have := (List.getElem?_eq_some_iff.1 hj).1
   simpa using this
  subst hj0
  rw [show Addr.add ⟨W.heap.size, 0, none⟩ 0 = (⟨W.heap.size, 0, none⟩ : Addr) by simp [Addr.add]]
  rw [← hj]
  exact (qai (World.alloc_heap_new W _) 0).trans rfl
 have fin : ∀ (v' : Value) (w' : World) (b0 : Nat), B ≤ b0 → w'.ownsRow b0 3 1 v' (mix.length + 1) (mix.map (Value.int .i64) ++ [.int .i64 x]) → (W.alloc (.cells #[.int .i64 x] 3)).grownBy w' none → Kd.R (Kd.int .i64) 3 w' B (fun _ => True) v' (mix ++ [x]) ∧ W.grownBy w' none := by
  intro v' w' b0 hb0 ho hg
  refine ⟨Kd.R_of_own (qj7 ?_ hb0) (fun _ _ => trivial), (World.grownBy_alloc W _ none).trans hg⟩
  have e1 : (mix ++ [x]).length = mix.length + 1 := by simp
  have e2 : encs (Value.int .i64) (mix ++ [x]) = mix.map (Value.int .i64) ++ [.int .i64 x] := by simp [encs]
  rw [e1, e2]
  exact ho
 cases A with
 | none =>
  have hm : mix = [] := by
   by_cases hz : 0 < mix.length
   · obtain ⟨ad, e, _⟩ := qi8 (W := W) hC (Below.refl _ _) (by simpa using hz); cases e
   · exact List.eq_nil_of_length_eq_zero (by omega)
  subst hm
  obtain ⟨v', w', hrun, r1, r2, _⟩ := run_append_own (P := Try.prog) (W.alloc (.cells #[.int .i64 x] 3)) (W.alloc (.cells #[.int .i64 x] 3)).heap.size 37 37 3 i0 (.int .i64 0) 1 8 Try.underlying37 hi hz0 hz1 hz2 rfl (by decide) (.slice none 0 0) 0 [] (World.ownsRow_nil _ _ 3 1) ⟨W.heap.size, 0, none⟩ 1 1 [.int .i64 x] rfl hnews (by simp [Value.oneCell']) (by decide) (by decide) (Nat.le_refl _)
  have := fin v' w' (W.alloc (.cells #[.int .i64 x] 3)).heap.size (by simp; omega) (by simpa using r1) (by simpa [Value.ownBlock] using r2)
  exact ⟨v', w', hrun, this⟩
 | some ad =>
  obtain ⟨v', w', hrun, r1, r2⟩ := run_append_arg_grows (P := Try.prog) (W.alloc (.cells #[.int .i64 x] 3)) 37 37 3 i0 (.int .i64 0) 1 8 Try.underlying37 hi hz0 hz1 hz2 rfl (by decide) ad mix.length mix.length (mix.map (Value.int .i64)) (by simp) (fun j u hj => by
   obtain ⟨ad', e, hc⟩ := qi8 (w := W) (W := W.alloc (.cells #[.int .i64 x] 3)) hC hb1 (by have := (List.getElem?_eq_some_iff.1 hj).1; omega)
   cases e
   exact hc j u hj) ⟨W.heap.size, 0, none⟩ 1 1 [.int .i64 x] rfl hnews (by omega) (by simp only [maxLen]; omega) (by omega)
  exact ⟨v', w', hrun, fin v' w' (W.alloc (.cells #[.int .i64 x] 3)).heap.size (by simp; omega) r1 r2⟩
theorem qot {α : Type} (f : Nat → List α) (k N : Nat) (h : k < N) : (List.range k).flatMap f ++ f k <+: (List.range N).flatMap f := by
 obtain ⟨d, rfl⟩ : ∃ d, N = (k + 1) + d := ⟨N - (k + 1), by omega⟩
 rw [List.range_add, List.flatMap_append, List.range_succ, List.flatMap_append, List.flatMap_singleton]
 exact List.prefix_append _ _
theorem qim {W W1 : World} {r : Option Nat} (h : W.drew.grownBy W1 r) : W.grownBy W1 r := ⟨h.1, h.2, h.3, h.size, fun k hk hr => h.block k hk hr⟩
theorem qov {n m : Nat} {P : Program} {l : Nat} {f : FuncId} {tmps : Array Value} {assign body : Code} {w : World} {R : Ending → World → Prop} (h : RoundIn Fence.wide n P l f tmps assign body w R) : RoundIn Fence.wide m P l f tmps assign body w R :=
 ⟨h.1, fun c cs _ => h.2 c cs (room_wide _)⟩
theorem qln {n m : Nat} {P : Program} {l : Nat} {args : Array Value} {w : World} {R : Ending → World → Prop} (h : YieldAt Fence.wide n P l args w R) : YieldAt Fence.wide m P l args w R := by
 obtain ⟨fn, tmps, assign, body, hy, hR⟩ := h
 exact ⟨fn, tmps, assign, body, hy, qov hR⟩
structure qf5 (l : Nat) (R : Int) (rb yb fb B : Nat) (W : World) : Prop where
 r : W.heap[rb]? = some (.cells #[.int .i64 R] 3 (0, 0))
 y : W.heap[yb]? = some (.cells #[.func (.yield l) #[] #[]] 147 (0, 0))
 f : W.heap[fb]? = some (.cells #[.func (.func 96) #[] #[.pointer (some ⟨rb, 0, none⟩), .pointer (some ⟨yb, 0, none⟩), .pointer (some ⟨fb, 0, none⟩)]] 87 (0, 0))
 br : B ≤ rb
 by_ : B ≤ yb
 bf : B ≤ fb
theorem qf5.keeps {l rb yb fb B : Nat} {R : Int} {W W1 : World} (h : qf5 l R rb yb fb B W) (k : qcB B W W1) : qf5 l R rb yb fb B W1 :=
 ⟨k.same _ _ _ h.br (by decide) h.r, k.same _ _ _ h.by_ (by decide) h.y, k.same _ _ _ h.bf (by decide) h.f, h.br, h.by_, h.bf⟩
theorem qli {n m : Nat} {P : Program} {f : FuncId} {args : Array Value} {w : World} {R : Ending → World → Prop} (h : CallsIn Fence.wide n P f args w R) : CallsIn Fence.wide m P f args w R := callsIn_wide.2 (callsIn_wide.1 h)
set_option maxHeartbeats 4000000 in
set_option maxRecDepth 100000 in
theorem qrT (n l : Nat) (R : Nat) (rb yb fb B : Nat) (xs : List (List Int)) (J : List (List Int) → World → Prop)
  (hJ : ∀ pre W1 W2, J pre W1 → W1.grownBy W2 none → J pre W2)
  (hY : ∀ pre v x W1, J pre W1 → pre ++ [x] <+: xs → Kd.R (Kd.int .i64) 3 W1 B (fun _ => True) v x → YieldAt Fence.wide n Try.prog l #[v] W1 fun e W' => e = .returned (.bool true) ∧ J (pre ++ [x]) W' ∧ qcB B W1 W') :
  ∀ (m : Nat) (left : Int) (mix : List Int) (v : Value) (pre : List (List Int)) (W : World), 0 ≤ left → left ≤ 100 → mix.length + m + 1 = R → R ≤ 3 → B ≤ W.heap.size → Kd.R (Kd.int .i64) 3 W B (fun _ => True) v mix → qf5 l R rb yb fb B W →
   J pre W → pre ++ qf4 m left mix <+: xs →
   CallsIn Fence.wide n Try.prog 96 #[v, .int .i64 left, .pointer (some ⟨rb, 0, none⟩), .pointer (some ⟨yb, 0, none⟩), .pointer (some ⟨fb, 0, none⟩)] W fun e W' => e = .returned (.bool true) ∧ J (pre ++ qf4 m left mix) W' ∧ qcB B W W' := by
 have hmix : Try.prog.follows .mixedOrders = true := by kernel_rfl
 intro m
 induction m with
 | zero =>
  intro left mix v pre W qtM hleft hlen hR3 hBW hrow hbox hj hpre
  obtain ⟨A, c, rfl, hc, _⟩ := Kd.R_reads hrow
  have hbr : W.cell? ⟨rb, 0, none⟩ = some (.int .i64 R) := (qai hbox.r 0).trans rfl
  have hby : W.cell? ⟨yb, 0, none⟩ = some (.func (.yield l) #[] #[]) := (qai hbox.y 0).trans rfl
  have hlr : decide ((mix.length : Int) = (R : Int) - 1) = true := decide_eq_true (by omega)
  have hrow2 : Kd.R (Kd.int .i64) 3 W.drew B (fun _ => True) (.slice A mix.length c) mix := hrow
  obtain ⟨v1, w1, hrun', hr1, hg1⟩ := qlh hrow2 hBW (by omega) left
  have hrun : (Builtin.append_ #[37, 37] 37 #[.slice A mix.length mix.length, .slice (some ⟨W.heap.size, 0, none⟩) 1 1]).run Try.prog (W.alloc (.cells #[.int .i64 left] 3)).drew = .ok v1 w1 := hrun'
  clear hrun'
  have hg0 : W.grownBy w1 none := qim hg1
  have qlE : qf5 l R rb yb fb B w1 := hbox.keeps (qcB.of_grown hg0)
  have hby1 : w1.cell? ⟨yb, 0, none⟩ = some (.func (.yield l) #[] #[]) := (qai qlE.y 0).trans rfl
  have hylt : yb < W.heap.size := qaN hbox.y
  have hyne : (yb = W.heap.size) = False := eq_false (by omega)
  have qEv : (W.heap.size = yb) = False := eq_false (by omega)
  have hby2 : (W.alloc (.cells #[.int .i64 left] 3)).cell? ⟨yb, 0, none⟩ = some (.func (.yield l) #[] #[]) := (World.cell?_alloc_some _ _ _ (by rw [hby]; rfl)).trans hby
  have hcut := qif (P := Try.prog) 37 3 Try.underlying37 rfl A mix.length c hc
  obtain ⟨fn, tmps, assign, body, hy, hRd⟩ := qln (m := n - 1) (hY pre v1 (mix ++ [left]) w1 (hJ _ _ _ hj hg0) hpre hr1)
  refine callsIn_of_wp Try.func96 rfl trivial ?_ rfl
  simp only [Try.ntmps96, List.size_toArray, List.length_cons, List.length_nil, Nat.reduceAdd, Nat.reduceSub, Array.replicate_succ, Array.replicate_zero, List.push_toArray, List.append_toArray, List.nil_append, List.cons_append]
  gi_wp2
  gi_region_with_o (refine ⟨fun e => by simp [Fence.wide] at e, hRd.mono ?_⟩; rintro e W' ⟨rfl, hJ', hk'⟩)
  all_goals
   gi_wp2
   go_ret
   exact ⟨rfl, hJ', (qcB.of_grown hg0).trans hk'⟩
 | succ m ih =>
  intro left mix v pre W qtM hleft hlen hR3 hBW hrow hbox hj hpre
  obtain ⟨A, c, rfl, hc, _⟩ := Kd.R_reads hrow
  have hbr : W.cell? ⟨rb, 0, none⟩ = some (.int .i64 R) := (qai hbox.r 0).trans rfl
  have hlr : decide ((mix.length : Int) = (R : Int) - 1) = false := decide_eq_false (by omega)
  have hlr2 : ((mix.length : Int) == (R : Int) - 1) = false := by simpa using hlr
  have hcut := qif (P := Try.prog) 37 3 Try.underlying37 rfl A mix.length c hc
  refine callsIn_of_wp Try.func96 rfl trivial ?_ rfl
  simp only [Try.ntmps96, List.size_toArray, List.length_cons, List.length_nil, Nat.reduceAdd, Nat.reduceSub, Array.replicate_succ, Array.replicate_zero, List.push_toArray, List.append_toArray, List.nil_append, List.cons_append]
  have hN : left.toNat + m + 1 ≤ left.toNat + m + 1 := Nat.le_refl _
  gi_wp2
  gi_loopg [27] (left.toNat + 1) (fun d v27 wr => ∃ (k : Nat), v27 = .int .i64 (k : Int) ∧ qaa (k + d = left.toNat + 1) ∧ qaa (J (pre ++ (List.range k).flatMap fun (n : Nat) => qf4 m (left - (n : Int)) (mix ++ [(n : Int)])) wr) ∧ qaa (qcB B W wr))
  case atStart => exact ⟨0, rfl, ⟨by omega⟩, ⟨by simpa using hj⟩, ⟨qcB.refl _ _⟩⟩
  case round =>
   obtain ⟨k, rfl, HD, HJ, HK⟩ := hrel
   by_cases hk : (k : Int) < left + 1
   ·
    obtain ⟨d, rfl⟩ : ∃ d, gk = d + 1 := ⟨gk - 1, by have := HD.out; omega⟩
    have hBr : B ≤ wr.heap.size := by have := HK.out.size; omega
    have hboxr : qf5 l R rb yb fb B wr := hbox.keeps HK.out; have hrowr : Kd.R (Kd.int .i64) 3 wr.drew B (fun _ => True) (.slice A mix.length c) mix := (show Kd.R (Kd.int .i64) 3 wr B (fun _ => True) (.slice A mix.length c) mix from qkv hrow HK.out)
    have hwr : IntKind.i64.wrap (left - (k : Int)) = left - (k : Int) := by rw [qaB]; unfold wrap64; omega
    obtain ⟨v1, w1, hrun', hr1, hg1⟩ := qlh hrowr hBr (by omega) (k : Int); have hrun : (Builtin.append_ #[37, 37] 37 #[.slice A mix.length mix.length, .slice (some ⟨wr.heap.size, 0, none⟩) 1 1]).run Try.prog (wr.alloc (.cells #[.int .i64 (k : Int)] 3)).drew = .ok v1 w1 := hrun'; clear hrun'; have hg0 : wr.grownBy w1 none := qim hg1; have qlE : qf5 l R rb yb fb B w1 := hboxr.keeps (qcB.of_grown hg0); have hbf : wr.cell? ⟨fb, 0, none⟩ = some (.func (.func 96) #[] #[.pointer (some ⟨rb, 0, none⟩), .pointer (some ⟨yb, 0, none⟩), .pointer (some ⟨fb, 0, none⟩)]) := (qai hboxr.f 0).trans rfl; have hbf1 : w1.cell? ⟨fb, 0, none⟩ = some (.func (.func 96) #[] #[.pointer (some ⟨rb, 0, none⟩), .pointer (some ⟨yb, 0, none⟩), .pointer (some ⟨fb, 0, none⟩)]) := (qai qlE.f 0).trans rfl; have hbf2 : (wr.alloc (.cells #[.int .i64 (k : Int)] 3)).cell? ⟨fb, 0, none⟩ = some (.func (.func 96) #[] #[.pointer (some ⟨rb, 0, none⟩), .pointer (some ⟨yb, 0, none⟩), .pointer (some ⟨fb, 0, none⟩)]) := (World.cell?_alloc_some _ _ _ (by rw [hbf]; rfl)).trans hbf; have hJ1 := hJ _ _ _ HJ.out hg0; have hB1 : B ≤ w1.heap.size := Nat.le_trans hBr hg0.size
    have qpz : (pre ++ (List.range k).flatMap fun (n : Nat) => qf4 m (left - (n : Int)) (mix ++ [(n : Int)])) ++ qf4 m (left - (k : Int)) (mix ++ [(k : Int)]) <+: xs := by
     refine List.IsPrefix.trans ?_ hpre; rw [List.append_assoc]
     exact (List.prefix_append_right_inj pre).2 (qot (fun (n : Nat) => qf4 m (left - (n : Int)) (mix ++ [(n : Int)])) k (left.toNat + 1) (by omega))
    have hcall := qli (m := n - 1) (ih (left - (k : Int)) (mix ++ [(k : Int)]) v1 _ w1 (by omega) (by omega) (by simp; omega) hR3 hB1 hr1 qlE hJ1 qpz); have HG := qaa.mk hg0; have HP := qaa.mk qpz; clear hJ1 qpz hg0 hg1 hr1 qlE hboxr hrowr hB1 hBr
    gi_wp2
    gi_region_with_o (refine ⟨trivial, fun e => by simp [Fence.wide] at e, hcall.mono ?_⟩; rintro e W' ⟨rfl, hJ', hk'⟩)
    all_goals
     gi_wp2
     gi_roundg d
     case measure => omega
     case rel => exact ⟨k + 1, rfl, ⟨by have := HD.out; omega⟩, ⟨by rw [List.range_succ, List.flatMap_append, List.flatMap_singleton, ← List.append_assoc]; exact hJ'⟩, ⟨(HK.out.trans (qcB.of_grown HG.out)).trans hk'⟩⟩
   ·
    gi_wp2
    go_ret
    have hkk : k = left.toNat + 1 := by have := HD.out; omega
    subst hkk
    exact ⟨rfl, HJ.out, HK.out⟩
end Go.Proofs.Ytmhomdohhihlcaa.P
namespace Go.Proofs.Ytmhomdohhihlcaa.P
open Go.RowKit Go.Proofs.YtmhomdohhihlcaaW.PrintWords Go.Proofs.YtmhomdohhihlcaaW.PrintLast Go.Proofs.YtmhomdohhihlcaaW.PrintMore
structure qp0 (p : Prop) : Prop where
 out : p
theorem qtY (op : BinOp) (k : IntKind) (x y : Int) : (Lit.int k (Go.bits op k x y)).wf = true := by
 exact wf_bits op k x y
structure BSt where
 ch : List Int
 sp : Int
 lo : Int
def qaW.upd (cells : List S136) (so : List Int) (x : Int) (st : BSt) : BSt :=
 if st.sp < (qbi.s cells x).1 ∨ ((qbi.s cells x).1 = st.sp ∧ (qbi.s cells x).2 < st.lo) then ⟨so, (qbi.s cells x).1, (qbi.s cells x).2⟩ else st
def qaW.lp (cells : List S136) (sets : List Int) (many : Int) : Nat → List Int → Int → BSt → BSt
  | 0, _, _, st => st
  | d + 1, so, x, st => qaW.lp cells sets many d so x
      (if (((so.length + 1 : Nat) : Int)) = many then qaW.upd cells (so ++ [((sets.length - (d + 1) : Nat) : Int)]) (Go.bits .or .i64 x (rd sets ((sets.length - (d + 1) : Nat) : Int))) st
       else qaW.lp cells sets many d (so ++ [((sets.length - (d + 1) : Nat) : Int)]) (Go.bits .or .i64 x (rd sets ((sets.length - (d + 1) : Nat) : Int))) st)
def qaW.cz (cells : List S136) (sets : List Int) (many : Int) (d : Nat) (so : List Int) (x : Int) (st : BSt) : BSt :=
 if (so.length : Int) = many then qaW.upd cells so x st else qaW.lp cells sets many d so x st
def BxS (sb lb cb bm : Nat) (k : Nat) : Prop := k = sb ∨ k = lb ∨ k = cb ∨ k = bm
structure BxI (N0 seb sb lb cb tb fb bm : Nat) (A : Option Addr) (c : Nat) (cells : List S136) (At : Option Addr) (ct : Nat) (sets : List Int) (W : World) (st : BSt) : Prop where
 sea : W.heap[seb]? = some (.cells #[.slice A cells.length c, .map (some bm)] 142 (0, 0))
 spb : W.heap[sb]? = some (.cells #[.int .i64 st.sp] 3 (0, 0))
 lob : W.heap[lb]? = some (.cells #[.int .i64 st.lo] 3 (0, 0))
 chb : ∃ v, W.heap[cb]? = some (.cells #[v] 37 (0, 0)) ∧ Kd.R (Kd.int .i64) 3 W N0 (fun k => ¬ BxS sb lb cb bm k) v st.ch
 tbx : W.heap[tb]? = some (.cells #[.slice At sets.length ct] 137 (0, 0))
 fbx : W.heap[fb]? = some (.cells #[.func (.func 90) #[] #[.pointer (some ⟨seb, 0, none⟩), .pointer (some ⟨sb, 0, none⟩), .pointer (some ⟨lb, 0, none⟩), .pointer (some ⟨cb, 0, none⟩), .pointer (some ⟨tb, 0, none⟩), .pointer (some ⟨fb, 0, none⟩)]] 143 (0, 0))
 row : Kd.R (Kd.int .i64) 139 W N0 (fun k => ¬ BxS sb lb cb bm k) (.slice At sets.length ct) sets
 map : MapI W bm cells
 cel : Kd.C k136 W A cells.length cells
 hc : cells.length ≤ c
 n1 : seb ≠ sb ∧ seb ≠ lb ∧ seb ≠ cb ∧ seb ≠ bm
 n2 : tb ≠ sb ∧ tb ≠ lb ∧ tb ≠ cb ∧ tb ≠ bm
 n3 : fb ≠ sb ∧ fb ≠ lb ∧ fb ≠ cb ∧ fb ≠ bm
 n4 : sb ≠ lb ∧ sb ≠ cb ∧ sb ≠ bm ∧ lb ≠ cb ∧ lb ≠ bm ∧ cb ≠ bm
 n5 : N0 ≤ sb ∧ N0 ≤ lb ∧ N0 ≤ cb ∧ N0 ≤ bm
 cl : ∀ W', Below N0 W W' → Kd.C k136 W' A cells.length cells
section
variable {N0 seb sb lb cb tb fb bm : Nat} {A : Option Addr} {c : Nat} {cells : List S136} {At : Option Addr} {ct : Nat} {sets : List Int} {W W1 : World} {st : BSt}
theorem BxI.step (h : BxI N0 seb sb lb cb tb fb bm A c cells At ct sets W st) (hk : Kept W W1 (fun k => k = bm)) (hm : MapI W1 bm cells) (hb : Below N0 W W1) : BxI N0 seb sb lb cb tb fb bm A c cells At ct sets W1 st := by
 obtain ⟨v, h1, h2⟩ := h.chb
 exact ⟨qfB h.sea hk h.n1.2.2.2, qfB h.spb hk h.n4.2.2.1, qfB h.lob hk h.n4.2.2.2.2.1, ⟨v, qfB h1 hk h.n4.2.2.2.2.2, Kd.R_kept h2 hk (fun k hk1 e => hk1 (.inr (.inr (.inr e))))⟩, qfB h.tbx hk h.n2.2.2.2, qfB h.fbx hk h.n3.2.2.2,
  Kd.R_kept h.row hk (fun k hk1 e => hk1 (.inr (.inr (.inr e)))), hm, h.cl _ hb, h.hc, h.n1, h.n2, h.n3, h.n4, h.n5, fun W' hb' => h.cl _ (hb.trans hb')⟩
theorem BxI.below (h : BxI N0 seb sb lb cb tb fb bm A c cells At ct sets W st) (hb : Below W.heap.size W W1) (hN : N0 ≤ W.heap.size) : BxI N0 seb sb lb cb tb fb bm A c cells At ct sets W1 st :=
 h.step (Kept.of_below hb _) (h.map.keep (hb.block bm h.map.lt)) (hb.mono hN)
theorem BxI.put (h : BxI N0 seb sb lb cb tb fb bm A c cells At ct sets W st) {v : Value} {so : List Int} {s1 s2 : Int} (hv : Kd.R (Kd.int .i64) 3 W N0 (fun k => ¬ BxS sb lb cb bm k) v so) :
  BxI N0 seb sb lb cb tb fb bm A c cells At ct sets (((W.setCell ⟨cb, 0, none⟩ v).setCell ⟨sb, 0, none⟩ (.int .i64 s1)).setCell ⟨lb, 0, none⟩ (.int .i64 s2)) ⟨so, s1, s2⟩ ∧
   Kept W (((W.setCell ⟨cb, 0, none⟩ v).setCell ⟨sb, 0, none⟩ (.int .i64 s1)).setCell ⟨lb, 0, none⟩ (.int .i64 s2)) (BxS sb lb cb bm) ∧
   Below N0 W (((W.setCell ⟨cb, 0, none⟩ v).setCell ⟨sb, 0, none⟩ (.int .i64 s1)).setCell ⟨lb, 0, none⟩ (.int .i64 s2)) := by
 obtain ⟨v0, h1, h2⟩ := h.chb
 obtain ⟨a1, a2, a3, a4, a5, a6⟩ := h.n4
 have hK : Kept W (((W.setCell ⟨cb, 0, none⟩ v).setCell ⟨sb, 0, none⟩ (.int .i64 s1)).setCell ⟨lb, 0, none⟩ (.int .i64 s2)) (BxS sb lb cb bm) :=
  (((Kept.refl W _).setCell (p := ⟨cb, 0, none⟩) (.inl (.inr (.inr (.inl rfl)))) _).setCell (p := ⟨sb, 0, none⟩) (.inl (.inl rfl)) _).setCell (p := ⟨lb, 0, none⟩) (.inl (.inr (.inl rfl))) _
 have hB : Below N0 W (((W.setCell ⟨cb, 0, none⟩ v).setCell ⟨sb, 0, none⟩ (.int .i64 s1)).setCell ⟨lb, 0, none⟩ (.int .i64 s2)) :=
  (((Below.refl N0 W).setCell (p := ⟨cb, 0, none⟩) h.n5.2.2.1 _).setCell (p := ⟨sb, 0, none⟩) h.n5.1 _).setCell (p := ⟨lb, 0, none⟩) h.n5.2.1 _
 have nS : ∀ {k : Nat}, k ≠ sb → k ≠ lb → k ≠ cb → k ≠ bm → ¬ BxS sb lb cb bm k := fun h1 h2 h3 h4 e => by
  rcases e with e | e | e | e
  · exact h1 e
  · exact h2 e
  · exact h3 e
  · exact h4 e
 refine ⟨⟨qfB h.sea hK (nS h.n1.1 h.n1.2.1 h.n1.2.2.1 h.n1.2.2.2), ?_, ?_, ⟨v, ?_, Kd.R_kept hv hK (fun k hk => hk)⟩, qfB h.tbx hK (nS h.n2.1 h.n2.2.1 h.n2.2.2.1 h.n2.2.2.2), qfB h.fbx hK (nS h.n3.1 h.n3.2.1 h.n3.2.2.1 h.n3.2.2.2), Kd.R_kept h.row hK (fun k hk => hk),
  h.map.keep ?_, h.cl _ hB, h.hc, h.n1, h.n2, h.n3, h.n4, h.n5, fun W' hb' => h.cl _ (hB.trans hb')⟩, hK, hB⟩
 · exact qau (qaH (qau h.spb (p := ⟨cb, 0, none⟩) a2 _) 0 _ rfl) (p := ⟨lb, 0, none⟩) a1 _
 · exact qaH (qau (qau h.lob (p := ⟨cb, 0, none⟩) a4 _) (p := ⟨sb, 0, none⟩) (Ne.symm a1) _) 0 _ rfl
 · exact qau (qau (qaH h1 0 _ rfl) (p := ⟨sb, 0, none⟩) (Ne.symm a2) _) (p := ⟨lb, 0, none⟩) (Ne.symm a4) _
 · exact ((Below.heap_setCell _ _ _ bm (Ne.symm a5)).trans (Below.heap_setCell _ _ _ bm (Ne.symm a3))).trans (Below.heap_setCell _ _ _ bm (Ne.symm a6))
set_option maxHeartbeats 4000000 in
set_option maxRecDepth 100000 in
theorem qgh.leaf (v : Value) (so : List Int) (x : Int) (hI : BxI N0 seb sb lb cb tb fb bm A c cells At ct sets W st) (hN : N0 ≤ W.heap.size) (hv : Kd.R (Kd.int .i64) 3 W N0 (fun k => ¬ BxS sb lb cb bm k) v so) (hx : (Lit.int .i64 x).wf = true) :
  Calls Try.prog 90 #[v, .agg #[.int .i64 x], .int .i64 (so.length : Int), .pointer (some ⟨seb, 0, none⟩), .pointer (some ⟨sb, 0, none⟩), .pointer (some ⟨lb, 0, none⟩), .pointer (some ⟨cb, 0, none⟩), .pointer (some ⟨tb, 0, none⟩), .pointer (some ⟨fb, 0, none⟩)] W
   fun e w' => (∃ u, e = .returned u) ∧ BxI N0 seb sb lb cb tb fb bm A c cells At ct sets w' (qaW.upd cells so x st) ∧ Kept W w' (BxS sb lb cb bm) ∧ Below N0 W w' := by
 obtain ⟨Av, cv, rfl, hcv, hCv⟩ := Kd.R_reads hv
 have qrB := Try.underlying142
 have qrA := Try.underlying139
 have qpD := Try.underlying136
 have hbl := qag (Below.refl W.heap.size W) (.cells #[.int .i64 x] 139)
 have hIa := hI.below hbl hN
 have hs0 : (W.alloc (.cells #[.int .i64 x] 139)).cell? ⟨seb, 0, none⟩ = some (.slice A cells.length c) := (qai hIa.sea 0).trans rfl
 have hs1 : (W.alloc (.cells #[.int .i64 x] 139)).cell? ⟨seb, 1, none⟩ = some (.map (some bm)) := (qai hIa.sea 1).trans rfl
 have hmx : so.length ≤ 9223372036854775807 := hCv.2.1
 have HI := qaa.mk hI
 have HIa := qaa.mk hIa
 have HV := qaa.mk hv
 have HBL := qaa.mk hbl
 obtain ⟨s1, hs1e⟩ : ∃ s1, (qbi.s cells x).1 = s1 := ⟨_, rfl⟩
 obtain ⟨s2, hs2e⟩ : ∃ s2, (qbi.s cells x).2 = s2 := ⟨_, rfl⟩
 obtain ⟨st2, hst2⟩ : ∃ st2, qaW.upd cells so x st = st2 := ⟨_, rfl⟩
 rw [hst2]
 have hupd : (if st.sp < s1 ∨ (s1 = st.sp ∧ s2 < st.lo) then ⟨so, s1, s2⟩ else st) = st2 := by rw [← hst2, ← hs1e, ← hs2e]; rfl
 have HS1 := qaa.mk hs1e
 have HS2 := qaa.mk hs2e
 have HU := qaa.mk hupd
 clear hI hIa hv hbl hCv hs1e hs2e hupd hst2
 go_enter Try.func90, Try.ntmps90
 go_wp2_with (go_at_call 91; refine qp0.out ?_)
 refine qp0.mk ?_
 refine (qlq.calls A cells.length c bm cells x _ HIa.out.cel HIa.out.hc hx HIa.out.map).mono ?_
 rintro e w2 ⟨rfl, hm2, hk2, hb2⟩
 have hb2' := hb2.mono HIa.out.n5.2.2.2
 have hI2 := HIa.out.step hk2 hm2 hb2'
 rw [HS1.out, HS2.out]
 clear hs0 hs1
 have hb3 := qag (Below.refl w2.heap.size w2) (.cells #[.int .i64 s1, .int .i64 s2] 136)
 have hN2 : N0 ≤ w2.heap.size := by have := HIa.out.n5.2.2.2; have := hm2.lt; omega
 have hI3 := hI2.below hb3 hN2
 have hK3 : Kept W (w2.alloc (.cells #[.int .i64 s1, .int .i64 s2] 136)) (BxS sb lb cb bm) := ((Kept.of_below HBL.out _).then_ (hk2.mono (fun k hk => .inr (.inr (.inr hk)))) (fun k hk => .inl hk)).alloc _
 have hB3 : Below N0 W (w2.alloc (.cells #[.int .i64 s1, .int .i64 s2] 136)) := ((HBL.out.mono hN).trans hb2').trans (hb3.mono hN2)
 have hlt2 : W.heap.size ≤ w2.heap.size := by have := hk2.1; simp at this; omega
 have hcs2 : w2.cell? ⟨sb, 0, none⟩ = some (.int .i64 st.sp) := (qai hI2.spb 0).trans rfl
 have hcl2 : w2.cell? ⟨lb, 0, none⟩ = some (.int .i64 st.lo) := (qai hI2.lob 0).trans rfl
 have hfs2 := qaj hI2.spb 0
 have hfl2 := qaj hI2.lob 0
 have hcc2 : ∃ vc, w2.cell? ⟨cb, 0, none⟩ = some vc := by obtain ⟨v, h, _⟩ := hI2.chb; exact ⟨v, (qai h 0).trans rfl⟩
 have hfc2 : w2.frozen? ⟨cb, 0, none⟩ = false := by obtain ⟨v, h, _⟩ := hI2.chb; exact qaj h 0
 obtain ⟨vc2, hcc2⟩ := hcc2
 obtain ⟨W3, hW3⟩ : ∃ W3, w2.alloc (.cells #[.int .i64 s1, .int .i64 s2] 136) = W3 := ⟨_, rfl⟩
 have hn3 : W3.heap[w2.heap.size]? = some (.cells #[.int .i64 s1, .int .i64 s2] 136 (0, 0)) := by rw [← hW3]; exact World.alloc_heap_new w2 _
 have hV3 : Kd.R (Kd.int .i64) 3 W3 N0 (fun k => ¬ BxS sb lb cb bm k) (.slice Av so.length cv) so := by rw [← hW3]; exact Kd.R_kept HV.out hK3 (fun k hk => hk)
 rw [hW3] at hI3 hK3 hB3 hb3
 have hc0 : W3.cell? ⟨w2.heap.size, 0, none⟩ = some (.int .i64 s1) := (qai hn3 0).trans rfl
 have hc1 : W3.cell? ⟨w2.heap.size, 1, none⟩ = some (.int .i64 s2) := (qai hn3 1).trans rfl
 have hcs : W3.cell? ⟨sb, 0, none⟩ = some (.int .i64 st.sp) := (qai hI3.spb 0).trans rfl
 have hcl : W3.cell? ⟨lb, 0, none⟩ = some (.int .i64 st.lo) := (qai hI3.lob 0).trans rfl
 obtain ⟨vc, hcb, hcr⟩ := hI3.chb
 have hcc : W3.cell? ⟨cb, 0, none⟩ = some vc := (qai hcb 0).trans rfl
 have hfs := qaj hI3.spb 0
 have hfl := qaj hI3.lob 0
 have hfc := qaj hcb 0
 obtain ⟨q1, q2, q3, q4, q5, q6⟩ := hI3.n4
 have hsl : sb < w2.heap.size := qaN hI2.spb
 have hll : lb < w2.heap.size := qaN hI2.lob
 have hclt : cb < w2.heap.size := by obtain ⟨_, h, _⟩ := hI2.chb; exact qaN h
 have HI3 := qaa.mk hI3
 have HK3 := qaa.mk hK3
 have HB3 := qaa.mk hB3
 have HV3 := qaa.mk hV3
 have HCB := qaa.mk hcb
 have hsz3 : qaa (w2.heap.size < W3.heap.size) := ⟨qaN hn3⟩
 have hupd := HU.out
 have HI2 := qaa.mk hI2
 have HK2 : qaa (Kept W w2 (BxS sb lb cb bm)) := ⟨(Kept.of_below HBL.out _).then_ (hk2.mono (fun k hk => .inr (.inr (.inr hk)))) (fun k hk => .inl hk)⟩
 have HV2 := qaa.mk (Kd.R_kept HV.out HK2.out (fun k hk => hk))
 have HB2 := qaa.mk ((HBL.out.mono hN).trans hb2')
 have HN2 := qaa.mk hN2
 clear hI3 hK3 hB3 hV3 hcb hI2 hb3 hN2 hm2 hk2 hb2 hb2' hlt2 hn3 HI HIa HV HBL hcr HS1 HS2 HU
 subst hW3
 by_cases hu : st.sp < s1 ∨ (s1 = st.sp ∧ s2 < st.lo)
 ·
  rw [if_pos hu] at hupd
  subst hupd
  have hg : (decide (st.sp < s1) = true) ∨ (decide (st.sp < s1) = false ∧ (s1 == st.sp) = true ∧ decide (s2 < st.lo) = true) := by
   by_cases h1 : st.sp < s1
   · exact .inl (decide_eq_true h1)
   ·
    rcases hu with h | ⟨h2, h3⟩
    · exact absurd h h1
    · exact .inr ⟨decide_eq_false h1, by simpa using h2, decide_eq_true h3⟩
  rcases hg with hg1 | ⟨hg1, hg2, hg3⟩
  ·
   go_wp2
   go_region
   go_wp2
   refine bodyPost_ret (results_none rfl _ _ _) rfl ?_
   obtain ⟨g1, g2, g3⟩ := HI2.out.put (s1 := s1) (s2 := s2) HV2.out
   have hsz : (((w2.setCell ⟨cb, 0, none⟩ (.slice Av so.length cv)).setCell ⟨sb, 0, none⟩ (.int .i64 s1)).setCell ⟨lb, 0, none⟩ (.int .i64 s2)).heap.size = w2.heap.size := by simp
   have hbb := qbC (qag (Below.refl (((w2.setCell ⟨cb, 0, none⟩ (.slice Av so.length cv)).setCell ⟨sb, 0, none⟩ (.int .i64 s1)).setCell ⟨lb, 0, none⟩ (.int .i64 s2)).heap.size (((w2.setCell ⟨cb, 0, none⟩ (.slice Av so.length cv)).setCell ⟨sb, 0, none⟩ (.int .i64 s1)).setCell ⟨lb, 0, none⟩ (.int .i64 s2))) (.cells #[.int .i64 s1, .int .i64 s2] 136))
   exact ⟨⟨_, rfl⟩, g1.below hbb (by rw [hsz]; exact HN2.out), (HK2.out.then_ g2 (fun k hk => .inl hk)).below hbb, (HB2.out.trans g3).trans (hbb.mono (by rw [hsz]; exact HN2.out))⟩
  ·
   go_wp2
   go_region
   go_wp2
   refine bodyPost_ret (results_none rfl _ _ _) rfl ?_
   obtain ⟨g1, g2, g3⟩ := HI2.out.put (s1 := s1) (s2 := s2) HV2.out
   have hsz : (((w2.setCell ⟨cb, 0, none⟩ (.slice Av so.length cv)).setCell ⟨sb, 0, none⟩ (.int .i64 s1)).setCell ⟨lb, 0, none⟩ (.int .i64 s2)).heap.size = w2.heap.size := by simp
   have hbb := qbC (qag (Below.refl (((w2.setCell ⟨cb, 0, none⟩ (.slice Av so.length cv)).setCell ⟨sb, 0, none⟩ (.int .i64 s1)).setCell ⟨lb, 0, none⟩ (.int .i64 s2)).heap.size (((w2.setCell ⟨cb, 0, none⟩ (.slice Av so.length cv)).setCell ⟨sb, 0, none⟩ (.int .i64 s1)).setCell ⟨lb, 0, none⟩ (.int .i64 s2))) (.cells #[.int .i64 s1, .int .i64 s2] 136))
   exact ⟨⟨_, rfl⟩, g1.below hbb (by rw [hsz]; exact HN2.out), (HK2.out.then_ g2 (fun k hk => .inl hk)).below hbb, (HB2.out.trans g3).trans (hbb.mono (by rw [hsz]; exact HN2.out))⟩
 ·
  rw [if_neg hu] at hupd
  subst hupd
  have hg1 : decide (st.sp < s1) = false := decide_eq_false (fun h => hu (.inl h))
  by_cases he : s1 = st.sp
  ·
   have hg2 : (s1 == st.sp) = true := by simpa using he
   have hg3 : decide (s2 < st.lo) = false := decide_eq_false (fun h => hu (.inr ⟨he, h⟩))
   clear he hu
   go_wp2
   refine bodyPost_ret (results_none rfl _ _ _) rfl ?_
   exact ⟨⟨_, rfl⟩, HI3.out, HK3.out, HB3.out⟩
  ·
   have hg2 : (s1 == st.sp) = false := by simpa using he
   clear he hu
   go_wp2
   refine bodyPost_ret (results_none rfl _ _ _) rfl ?_
   exact ⟨⟨_, rfl⟩, HI3.out, HK3.out, HB3.out⟩
end
theorem qth (cells : List S136) (sets : List Int) (many : Int) (d i : Nat) (so : List Int) (x : Int) (st : BSt) (h : i + (d + 1) = sets.length) :
  qaW.lp cells sets many (d + 1) so x st = qaW.lp cells sets many d so x (qaW.cz cells sets many d (so ++ [(i : Int)]) (Go.bits .or .i64 x (rd sets (i : Int))) st) := by
 have e : sets.length - (d + 1) = i := by omega
 rw [qaW.lp, e, qaW.cz]
 simp
theorem qnW {W : World} {B c : Nat} {A : Option Addr} {mix : List Int} {ok : Nat → Prop} (h : Kd.R (Kd.int .i64) 3 W B ok (.slice A mix.length c) mix) (hl : mix.length ≤ 10) (x : Int) :
  ∃ v' w', (Builtin.append_ #[37, 37] 37 #[.slice A mix.length mix.length, .slice (some ⟨W.heap.size, 0, none⟩) 1 1]).run Try.prog (W.alloc (.cells #[.int .i64 x] 3)) = .ok v' w' ∧
   Kd.R (Kd.int .i64) 3 w' W.heap.size (fun _ => True) v' (mix ++ [x]) ∧ W.grownBy w' none := by
 have hC := (Kd.R_reads' h).2.2
 have hinf : (Try.prog.info? 3).map (fun i => (i.zero, i.size, i.bytes)) = some (some (.int .i64 0), 1, 8) := by kernel_rfl
 obtain ⟨i0, hi, hz0, hz1, hz2⟩ := info_parts hinf
 have hb1 : Below W.heap.size W (W.alloc (.cells #[.int .i64 x] 3)) := (Below.refl _ W).alloc (Nat.le_refl _) _
 have hnews : ∀ j u, [Value.int .i64 x][j]? = some u → (W.alloc (.cells #[.int .i64 x] 3)).cell? (Addr.add ⟨W.heap.size, 0, none⟩ j) = some u := by
  intro j u hj
  have hj0 : j = 0 := by
   have := (List.getElem?_eq_some_iff.1 hj).1
   simpa using this
  subst hj0
  rw [show Addr.add ⟨W.heap.size, 0, none⟩ 0 = (⟨W.heap.size, 0, none⟩ : Addr) by simp [Addr.add]]
  rw [← hj]
  exact (qai (World.alloc_heap_new W _) 0).trans rfl
 have fin : ∀ (v' : Value) (w' : World), w'.ownsRow (W.alloc (.cells #[.int .i64 x] 3)).heap.size 3 1 v' (mix.length + 1) (mix.map (Value.int .i64) ++ [.int .i64 x]) → (W.alloc (.cells #[.int .i64 x] 3)).grownBy w' none → Kd.R (Kd.int .i64) 3 w' W.heap.size (fun _ => True) v' (mix ++ [x]) ∧ W.grownBy w' none := by
  intro v' w' ho hg
  refine ⟨Kd.R_of_own (qj7 (base := (W.alloc (.cells #[.int .i64 x] 3)).heap.size) ?_ (by simp)) (fun _ _ => trivial), (World.grownBy_alloc W _ none).trans hg⟩
  have e1 : (mix ++ [x]).length = mix.length + 1 := by simp
  have e2 : encs (Value.int .i64) (mix ++ [x]) = mix.map (Value.int .i64) ++ [.int .i64 x] := by simp [encs]
  rw [e1, e2]
  exact ho
 cases A with
 | none =>
  have hm : mix = [] := by
   by_cases hz : 0 < mix.length
   · obtain ⟨ad, e, _⟩ := qi8 (W := W) hC (Below.refl _ _) (by simpa using hz); cases e
   · exact List.eq_nil_of_length_eq_zero (by omega)
  subst hm
  obtain ⟨v', w', hrun, r1, r2, _⟩ := run_append_own (P := Try.prog) (W.alloc (.cells #[.int .i64 x] 3)) (W.alloc (.cells #[.int .i64 x] 3)).heap.size 37 37 3 i0 (.int .i64 0) 1 8 Try.underlying37 hi hz0 hz1 hz2 rfl (by decide) (.slice none 0 0) 0 [] (World.ownsRow_nil _ _ 3 1) ⟨W.heap.size, 0, none⟩ 1 1 [.int .i64 x] rfl hnews (by simp [Value.oneCell']) (by decide) (by decide) (Nat.le_refl _)
  exact ⟨v', w', hrun, fin v' w' (by simpa using r1) (by simpa [Value.ownBlock] using r2)⟩
 | some ad =>
  obtain ⟨v', w', hrun, r1, r2⟩ := run_append_arg_grows (P := Try.prog) (W.alloc (.cells #[.int .i64 x] 3)) 37 37 3 i0 (.int .i64 0) 1 8 Try.underlying37 hi hz0 hz1 hz2 rfl (by decide) ad mix.length mix.length (mix.map (Value.int .i64)) (by simp) (fun j u hj => by
   obtain ⟨ad', e, hc⟩ := qi8 (w := W) (W := W.alloc (.cells #[.int .i64 x] 3)) hC hb1 (by have := (List.getElem?_eq_some_iff.1 hj).1; omega)
   cases e
   exact hc j u hj) ⟨W.heap.size, 0, none⟩ 1 1 [.int .i64 x] rfl hnews (by omega) (by simp only [maxLen]; omega) (by omega)
  exact ⟨v', w', hrun, fin v' w' r1 r2⟩
theorem qmg {P : Program} {ops : Array Oper} {Q : Exit → Act → World → Prop} {o : Oper} {a : Act} {W W1 : World} {K : Act → World → Prop} (hw : Region.wanted o (yielded ops a.tmps) = true) (s x : Operand) (t t1 : TypeId)
  (ho : o.op = .call { callee := .builtin .append, args := #[s, x], argTypes := #[t, t] }) (hty : o.type = t1) {vs vx v : Value} (hs : a.eval s = vs) (hx : a.eval x = vx) (hrun : (Builtin.append_ #[t, t] t1 #[vs, vx]).run P W = .ok v W1) (h : K (a.put o.dst v) W1) :
  if Region.wanted o (yielded ops a.tmps) = true then Oper.wp P o a W K Q else K (a.put o.dst undef) W := by
 rw [if_pos hw]
 subst hty
 unfold Oper.wp execOp
 simp only [ho, resolve, invoke, builtin, Sem.run_bind, Sem.run_pure, Result.andThen_ok, List.map_toArray, List.map_cons, List.map_nil, hs, hx, hrun]
 exact h
theorem qtF {P : Program} {ops : Array Oper} {Q : Exit → Act → World → Prop} {oi : Oper} {N : Option Tmp} {a : Act} {w : World} {K : Act → World → Prop} {f : FuncId} {fn : Func} {ao : Array Operand} {ts : Array TypeId} (hf : P.funcs[f]? = some fn) (hname : (fn.name == "runtime.NumGoroutine") = false) (hb : fn.body.isSome = true) (args : Array Value) (t : Tmp) (bound caps : Array Value)
  (hw : Region.wanted oi (yielded ops a.tmps) = true) (hN : oi.dst = N) (hop : oi.op = .call { callee := .value (.tmp t), args := ao, argTypes := ts }) (hev : a.eval (.tmp t) = .func (.func f) bound caps) (hargs : bound ++ ao.map a.eval ++ caps = args)
  (h : Calls P f args w fun e w' => ∃ v, e = .returned v ∧ K (a.put N v) w') : if Region.wanted oi (yielded ops a.tmps) = true then Oper.wp P oi a w K Q else K (a.put N undef) w := by
 refine qpw f args hw hN ?_ h
 have he := qja hf hname hb args w
 unfold execOp
 simp [hop, resolve, Deferred.ofValue, invoke, hev, hargs, he]
section
variable {N0 seb sb lb cb tb fb bm : Nat} {A : Option Addr} {c : Nat} {cells : List S136} {At : Option Addr} {ct : Nat} {sets : List Int}
attribute [-go_sem] Builtin.append_
set_option maxHeartbeats 4000000 in
set_option maxRecDepth 100000 in
theorem qgh.calls (many : Int) (hn : sets.length ≤ 8) : ∀ (d0 : Nat) (v : Value) (so : List Int) (x : Int) (st : BSt) (W : World), ((so = [] ∧ d0 = sets.length) ∨ ∃ (p : List Int) (l : Nat), so = p ++ [(l : Int)] ∧ l + 1 + d0 = sets.length) → so.length + d0 ≤ sets.length →
  BxI N0 seb sb lb cb tb fb bm A c cells At ct sets W st → N0 ≤ W.heap.size → Kd.R (Kd.int .i64) 3 W N0 (fun k => ¬ BxS sb lb cb bm k) v so → (Lit.int .i64 x).wf = true →
  Calls Try.prog 90 #[v, .agg #[.int .i64 x], .int .i64 many, .pointer (some ⟨seb, 0, none⟩), .pointer (some ⟨sb, 0, none⟩), .pointer (some ⟨lb, 0, none⟩), .pointer (some ⟨cb, 0, none⟩), .pointer (some ⟨tb, 0, none⟩), .pointer (some ⟨fb, 0, none⟩)] W
   fun e w' => (∃ u, e = .returned u) ∧ BxI N0 seb sb lb cb tb fb bm A c cells At ct sets w' (qaW.cz cells sets many d0 so x st) ∧ Kept W w' (BxS sb lb cb bm) ∧ Below N0 W w' := by
 intro d0
 induction d0 using Nat.strongRecOn with
 | ind d0 ih =>
 intro v so x st W hfrom hlen hI hN hv hx
 by_cases hm : (so.length : Int) = many
 · subst hm; rw [qaW.cz, if_pos rfl]; exact qgh.leaf v so x hI hN hv hx
 ·
  obtain ⟨fin, hfin⟩ : ∃ fin, qaW.cz cells sets many d0 so x st = fin := ⟨_, rfl⟩
  rw [hfin]
  rw [qaW.cz, if_neg hm] at hfin
  have hm2 : ((so.length : Int) == many) = false := by simpa using hm
  obtain ⟨Av, cv, rfl, hcv, hCv⟩ := Kd.R_reads hv
  have qrA := Try.underlying139
  have hbl := qag (Below.refl W.heap.size W) (.cells #[.int .i64 x] 139)
  have hIa := hI.below hbl hN
  have hmx : so.length ≤ 9223372036854775807 := hCv.2.1
  obtain ⟨W1, hW1⟩ : ∃ W1, W.alloc (.cells #[.int .i64 x] 139) = W1 := ⟨_, rfl⟩
  have hx1 : W1.heap[W.heap.size]? = some (.cells #[.int .i64 x] 139 (0, 0)) := by rw [← hW1]; exact World.alloc_heap_new W _
  have hC1 : Kd.C (Kd.int .i64) W1 Av so.length so := by rw [← hW1]; exact Kd.C_below hCv hbl
  have hV1 : Kd.R (Kd.int .i64) 3 W1 N0 (fun k => ¬ BxS sb lb cb bm k) (.slice Av so.length cv) so := by rw [← hW1]; exact Kd.R_below hv hbl
  rw [hW1] at hbl hIa
  have hlt : W.heap.size < W1.heap.size := qaN hx1
  have hbs : ∀ k, BxS sb lb cb bm k → k < W.heap.size := fun k hk => by
   rcases hk with rfl | rfl | rfl | rfl
   · exact qaN hI.spb
   · exact qaN hI.lob
   · obtain ⟨_, h, _⟩ := hI.chb; exact qaN h
   · exact hI.map.lt
  obtain ⟨fr, hfr⟩ : ∃ fr : Nat, fr + d0 = sets.length := ⟨sets.length - d0, by omega⟩
  have hlast : so ≠ [] → 0 < so.length ∧ rd so ((so.length : Int) - 1) = (fr : Int) - 1 := fun h => by
   rcases hfrom with ⟨h1, _⟩ | ⟨p, l, rfl, hl⟩
   · exact absurd h1 h
   ·
    refine ⟨by simp, ?_⟩
    simp [rd, List.getD_eq_getElem?_getD]
    omega
  have hfirst : so = [] → fr = 0 := fun h => by
   rcases hfrom with ⟨h1, h2⟩ | ⟨p, l, rfl, hl⟩
   ·
    omega
   ·
    simp at h
  have HF := qaa.mk hfin
  have HIA := qaa.mk hIa
  have HBL := qaa.mk hbl
  have HX1 := qaa.mk hx1
  have HV1 := qaa.mk hV1
  have HC1 := qaa.mk hC1
  have HFR := qaa.mk hfr
  have HBS := qaa.mk hbs
  clear hfin hIa hbl hx1 hV1 hC1 hfr hI hv hCv hfrom hbs hm
  go_enter Try.func90, Try.ntmps90
  go_upto_if 45 with (fail)
  go_cut [13] (fun v13 wc => v13 = .int .i64 (fr : Int) ∧ wc = W1)
  case first =>
   by_cases hso : so = []
   ·
    have h0 := hfirst hso; subst h0
    have hl1 : ¬ (0 < so.length) := by rw [hso]; decide
    have hl0 : decide (0 < so.length) = false := decide_eq_false hl1; clear hso hlast hfirst
    go_wp2
    go_meet
    case rel => exact ⟨rfl, rfl⟩
   ·
    obtain ⟨hp, hl⟩ := hlast hso; obtain ⟨ad, ea, hxl⟩ := Kd.at_int HC1.out ((so.length : Int) - 1) (by omega) (by omega); subst ea; rw [hl] at hxl; rw [show ((so.length : Int) - 1).toNat = so.length - 1 by omega] at hxl; have hl0 : decide (0 < so.length) = true := decide_eq_true hp
    have hfr8 : fr ≤ 8 := by have := HFR.out; omega
    have hw1 : ((fr : Int) - 1 + 1) = (fr : Int) := by omega
    clear hlast hfirst hl hso
    go_wp2
    go_meet
    case rel => exact ⟨by rw [← hw1], rfl⟩
  case rest =>
   obtain ⟨rfl, rfl⟩ := hcut
   clear hlast hfirst
   go_wp2
   go_loopg [14] d0 (fun d v14 wr => ∃ (i : Nat), v14 = .int .i64 (i : Int) ∧ qaa (i + d = sets.length ∧ d ≤ d0) ∧ qaa (∃ st', BxI N0 seb sb lb cb tb fb bm A c cells At ct sets wr st' ∧ qaW.lp cells sets many d so x st' = fin) ∧ qaa (Kept wc wr (BxS sb lb cb bm)) ∧ qaa (Below N0 wc wr))
   case atStart => exact ⟨fr, rfl, ⟨HFR.out, Nat.le_refl _⟩, ⟨st, HIA.out, HF.out⟩, ⟨Kept.refl _ _⟩, ⟨Below.refl _ _⟩⟩
   case round =>
    obtain ⟨i, rfl, HD, HS, HK, HB⟩ := hrel; obtain ⟨st', hI', hlp⟩ := HS.out; have htb : wr.cell? ⟨tb, 0, none⟩ = some (.slice At sets.length ct) := (qai hI'.tbx 0).trans rfl; have HI' := qaa.mk hI'; have HLP := qaa.mk hlp
    have hn9 : sets.length ≤ 9223372036854775807 := by omega
    clear hI' hlp HS
    by_cases hi : i < sets.length
    ·
     obtain ⟨d, rfl⟩ : ∃ d, gk = d + 1 := ⟨gk - 1, by have := HD.out; omega⟩; have hDD := HD.out; obtain ⟨tr, cr, er, _, _, _, _⟩ := Kd.R_form HI'.out.row (by omega)
     injection er with e1 _ e2
     subst e1 e2; obtain ⟨ad, ea, hel⟩ := Kd.at_int (Kd.R_reads' HI'.out.row).2.2 (i : Int) (by omega) (by omega)
     injection ea with ea
     subst ea; rw [Int.toNat_natCast] at hel
     have hel : wr.cell? ⟨tr, i, none⟩ = some (.int .i64 (rd sets (i : Int))) := by rwa [qid] at hel
     have hfb : wr.cell? ⟨fb, 0, none⟩ = some (.func (.func 90) #[] #[.pointer (some ⟨seb, 0, none⟩), .pointer (some ⟨sb, 0, none⟩), .pointer (some ⟨lb, 0, none⟩), .pointer (some ⟨cb, 0, none⟩), .pointer (some ⟨tb, 0, none⟩), .pointer (some ⟨fb, 0, none⟩)]) := (qai HI'.out.fbx 0).trans rfl; have hxr : wr.heap[W.heap.size]? = some (.cells #[.int .i64 x] 139 (0, 0)) := qfB HX1.out HK.out (fun h => by have := HBS.out _ h; omega); have hx0 : wr.cell? ⟨W.heap.size, 0, none⟩ = some (.int .i64 x) := (qai hxr 0).trans rfl; have hsz : wc.heap.size ≤ wr.heap.size := HK.out.1; have hVr : Kd.R (Kd.int .i64) 3 wr.drew N0 (fun k => ¬ BxS sb lb cb bm k) (.slice Av so.length cv) so := Kd.R_drew (Kd.R_kept HV1.out HK.out (fun k hk => hk)); obtain ⟨v1, w1, hrun', hr1, hg1⟩ := qnW hVr (by omega) (i : Int); have hg0 : wr.grownBy w1 none := qim hg1; have hb1 : Below wr.heap.size wr w1 := (Below.refl _ _).grown hg0 (Nat.le_refl _) (fun k e => by cases e); have qCR := qif (P := Try.prog) 37 3 Try.underlying37 rfl Av so.length cv hcv; obtain ⟨or, hor⟩ : ∃ o, Go.bits .or .i64 x (rd sets (i : Int)) = o := ⟨_, rfl⟩; have hlp2 := HLP.out; rw [qth cells sets many d i so x st' hDD.1, hor] at hlp2
     have hworz : (Lit.int .i64 or).wf = true := by rw [← hor]; exact qtY _ _ _ _
     have hNr : N0 ≤ wr.heap.size := by omega
     have hN1 : N0 ≤ w1.heap.size := by have := hb1.size; omega
     have hr1' : Kd.R (Kd.int .i64) 3 w1 N0 (fun k => ¬ BxS sb lb cb bm k) v1 (so ++ [(i : Int)]) := Kd.R_mono (Kd.R_bound (Kd.R_lower (Kd.R_mono (Kd.R_bound hr1) (fun k hk => (⟨hk.2.1, trivial⟩ : wr.drew.heap.size ≤ k ∧ True))) (show N0 ≤ wr.drew.heap.size from hNr))) (fun k hk e => by have h1 := HBS.out k e; have h2 : wr.heap.size ≤ k := hk.1.1; omega); have hcall := ih d (by omega) v1 (so ++ [(i : Int)]) or st' w1 (.inr ⟨so, i, rfl, by omega⟩) (by simp; omega) (HI'.out.below hb1 hNr) hN1 hr1' hworz
     have hSb : ∀ z : World, Below wr.heap.size wr z → z.cell? ⟨fb, 0, none⟩ = some (.func (.func 90) #[] #[.pointer (some ⟨seb, 0, none⟩), .pointer (some ⟨sb, 0, none⟩), .pointer (some ⟨lb, 0, none⟩), .pointer (some ⟨cb, 0, none⟩), .pointer (some ⟨tb, 0, none⟩), .pointer (some ⟨fb, 0, none⟩)]) ∧ z.cell? ⟨W.heap.size, 0, none⟩ = some (.int .i64 x) ∧ z.cell? ⟨tb, 0, none⟩ = some (.slice (some ⟨tr, 0, none⟩) sets.length ct) ∧ z.cell? ⟨tr, i, none⟩ = some (.int .i64 (rd sets (i : Int))) := fun z hz =>
      ⟨(hz.cell (World.block_lt_of_cell? wr _ hfb)).trans hfb, (hz.cell (World.block_lt_of_cell? wr _ hx0)).trans hx0, (hz.cell (World.block_lt_of_cell? wr _ htb)).trans htb, (hz.cell (World.block_lt_of_cell? wr _ hel)).trans hel⟩
     have htrS : ¬ BxS sb lb cb bm tr := HI'.out.row.1 tr rfl
     have hSk : ∀ z : World, Kept w1 z (BxS sb lb cb bm) → z.cell? ⟨fb, 0, none⟩ = some (.func (.func 90) #[] #[.pointer (some ⟨seb, 0, none⟩), .pointer (some ⟨sb, 0, none⟩), .pointer (some ⟨lb, 0, none⟩), .pointer (some ⟨cb, 0, none⟩), .pointer (some ⟨tb, 0, none⟩), .pointer (some ⟨fb, 0, none⟩)]) ∧ z.cell? ⟨W.heap.size, 0, none⟩ = some (.int .i64 x) ∧ z.cell? ⟨tb, 0, none⟩ = some (.slice (some ⟨tr, 0, none⟩) sets.length ct) ∧ z.cell? ⟨tr, i, none⟩ = some (.int .i64 (rd sets (i : Int))) := fun z hz => by
      obtain ⟨q1, q2, q3, q4⟩ := hSb w1 hb1; refine ⟨YtmhomdohhihlcaaW.PrintWords.qi2 q1 hz (fun e => ?_), YtmhomdohhihlcaaW.PrintWords.qi2 q2 hz (fun e => ?_), YtmhomdohhihlcaaW.PrintWords.qi2 q3 hz (fun e => ?_), YtmhomdohhihlcaaW.PrintWords.qi2 q4 hz htrS⟩
      ·
       obtain ⟨a1, a2, a3, a4⟩ := HI'.out.n3
       rcases e with e | e | e | e
       · exact a1 e
       · exact a2 e
       · exact a3 e
       · exact a4 e
      · have := HBS.out _ e; exact absurd this (Nat.lt_irrefl _)
      ·
       obtain ⟨a1, a2, a3, a4⟩ := HI'.out.n2
       rcases e with e | e | e | e
       · exact a1 e
       · exact a2 e
       · exact a3 e
       · exact a4 e
     have HSk := qaa.mk hSk; have HSb := qaa.mk hSb; have HB1 := qaa.mk hb1; have HLP2 := qaa.mk hlp2; have HRUN := qaa.mk (show (Builtin.append_ #[37, 37] 37 #[.slice Av so.length so.length, .slice (some ⟨wr.heap.size, 0, none⟩) 1 1]).run Try.prog (wr.alloc (.cells #[.int .i64 (i : Int)] 3)).drew = .ok v1 w1 from hrun'); have HCALL := qaa.mk hcall; clear hSk htrS hSb hb1 hlp2 hrun' hcall hg1 hg0 hr1 hr1' hworz hxr hDD
     go_wp2
     go_upto_region 11 with (fail)
     go_region_held3 (fun z => z.cell? ⟨fb, 0, none⟩ = some (.func (.func 90) #[] #[.pointer (some ⟨seb, 0, none⟩), .pointer (some ⟨sb, 0, none⟩), .pointer (some ⟨lb, 0, none⟩), .pointer (some ⟨cb, 0, none⟩), .pointer (some ⟨tb, 0, none⟩), .pointer (some ⟨fb, 0, none⟩)]) ∧ z.cell? ⟨W.heap.size, 0, none⟩ = some (.int .i64 x) ∧ z.cell? ⟨tb, 0, none⟩ = some (.slice (some ⟨tr, 0, none⟩) sets.length ct) ∧ z.cell? ⟨tr, i, none⟩ = some (.int .i64 (rd sets (i : Int))))
      (first | exact HSb.out _ (qbC (Below.refl _ _)) | exact HSb.out _ (qbC (qag (Below.refl _ _) _)) | exact HSb.out _ (qag (qbC (Below.refl _ _)) _) | exact HSb.out _ HB1.out | exact HSk.out _ hKe | go_keep)
      (first | (refine qmg ?hwA (.tmp 66) (.tmp 68) 37 37 rfl rfl rfl rfl HRUN.out ?_; (case hwA => rfl)) | (refine qtF Try.func90 ?hnm rfl #[v1, .agg #[.int .i64 or], .int .i64 many, .pointer (some ⟨seb, 0, none⟩), .pointer (some ⟨sb, 0, none⟩), .pointer (some ⟨lb, 0, none⟩), .pointer (some ⟨cb, 0, none⟩), .pointer (some ⟨tb, 0, none⟩), .pointer (some ⟨fb, 0, none⟩)] 60 #[] #[.pointer (some ⟨seb, 0, none⟩), .pointer (some ⟨sb, 0, none⟩), .pointer (some ⟨lb, 0, none⟩), .pointer (some ⟨cb, 0, none⟩), .pointer (some ⟨tb, 0, none⟩), .pointer (some ⟨fb, 0, none⟩)] ?hwC rfl rfl ?hevC ?hagC ?_; (case hnm => kernel_rfl); (case hwC => rfl); (case hevC => rfl); (case hagC => simp only [List.map_toArray, List.map_cons, List.map_nil]; rfl); refine HCALL.out.mono ?_; rintro e W' ⟨⟨u, rfl⟩, hIe, hKe, hBe⟩; refine ⟨u, rfl, ?_⟩))
     all_goals
      have HIE := qaa.mk hIe; have HKE := qaa.mk hKe; have HBE := qaa.mk hBe; clear hIe hKe hBe
      go_wp2
      go_roundg d
      case measure => omega
      case rel => exact ⟨i + 1, by simp, ⟨by have := HD.out; omega⟩, ⟨_, HIE.out, HLP2.out⟩, ⟨(HK.out.below HB1.out).then_ HKE.out (fun k hk => .inl hk)⟩, ⟨(HB.out.trans (HB1.out.mono hNr)).trans HBE.out⟩⟩
    ·
     have hlp2 := HLP.out
     have hd0 : gk = 0 := by have := HD.out; omega
     subst hd0; rw [qaW.lp] at hlp2; subst hlp2
     go_wp2
     go_end0
     exact ⟨⟨_, rfl⟩, HI'.out, ((Kept.of_below HBL.out _).then_ HK.out (fun k hk => .inl hk)), (HBL.out.mono hN).trans HB.out⟩
end
end Go.Proofs.Ytmhomdohhihlcaa.P
namespace Go.Proofs.Ytmhomdohhihlcaa.P
open Go.RowKit Go.Proofs.YtmhomdohhihlcaaW.PrintWords Go.Proofs.YtmhomdohhihlcaaW.PrintLast Go.Proofs.YtmhomdohhihlcaaW.PrintMore
def wi (a b c : Int) : Bool := decide (b ≤ a ∧ a ≤ c)
theorem qqq {a b c : Int} : wi a b c = true ↔ b ≤ a ∧ a ≤ c := by simp [wi]
theorem qhx (a b c : Int) (w : World) : Calls Try.prog 65 #[.int .i64 a, .int .i64 b, .int .i64 c] w fun e w' => e = .returned (.bool (wi a b c)) ∧ qbF w w' := by
 refine qaD.calls a b c (wi a b c) w ?_
 unfold qaD.f wi
 by_cases h : b ≤ a
 · rw [if_pos h]; simp [h]
 · rw [if_neg h]; simp [h]
def qaW.okc : List S136 → Bool → Bool
 | [], b => b
 | c :: cs, b => qaW.okc cs (b && wi c.f0 0 10000 && wi c.f1 0 10000)
def qaW.rowf (m : Int) : List Int → Int → Int → Option Int
 | [], _, acc => some acc
 | c :: cs, last, acc => if wi c (last + 1) (m - 1) = true then qaW.rowf m cs c (Go.bits .or .i64 acc (shl .i64 1 c)) else none
def qaW.rows (m : Int) : List (List Int) → Option (List Int)
 | [] => some []
 | l :: ls => (qaW.rowf m l (-1) 0).bind fun x => (qaW.rows m ls).map (x :: ·)
def qaW.tries (cells : List S136) (sets : List Int) : Nat → Nat → BSt → BSt
 | 0, _, st => st
 | k + 1, many, st => qaW.tries cells sets k (many + 1) (qaW.cz cells sets (many : Int) sets.length [] 0 st)
def qaW.g (l0 : List S136) (l1 : List (List Int)) (a2 : Int) : List Int × Int × Int × Int :=
 match qaW.rows (l0.length : Int) l1 with
 | none => ([], 0, 0, 94)
 | some sets =>
  if qaW.okc l0 (decide ((l0.length : Int) ≤ 12) && decide ((l1.length : Int) ≤ 8)) = true then
   if wi a2 0 8 = true then
    ((qaW.tries l0 sets (min a2.toNat sets.length + 1) 0 ⟨[], 0, 0⟩).ch, (qaW.tries l0 sets (min a2.toNat sets.length + 1) 0 ⟨[], 0, 0⟩).sp, (qaW.tries l0 sets (min a2.toNat sets.length + 1) 0 ⟨[], 0, 0⟩).lo, 0)
   else ([], 0, 0, 7)
  else ([], 0, 0, 94)
def qaW.f (l0 : List S136) (l1 : List (List Int)) (a2 : Int) : Option (List Int × Int × Int × Int) :=
 if l1.length ≤ 35184372088832 then some (qaW.g l0 l1 a2) else none
structure Bx0 (w W : World) : Prop where
 c : W.heap[w.heap.size]? = some (.cells #[.slice none 0 0] 37 (0, 0))
 s : W.heap[w.heap.size + 1]? = some (.cells #[.int .i64 0] 3 (0, 0))
 l : W.heap[w.heap.size + 1 + 1]? = some (.cells #[.int .i64 0] 3 (0, 0))
 below : Below w.heap.size w W
theorem Bx0.keep {w W W1 : World} (h : Bx0 w W) (hb : Below W.heap.size W W1) : Bx0 w W1 := ⟨qar h.c hb, qar h.s hb, qar h.l hb, h.below.trans (hb.mono h.below.size)⟩
theorem Bx0.start (w : World) : Bx0 w (((w.alloc (.cells #[.slice none 0 0] 37)).alloc (.cells #[.int .i64 0] 3)).alloc (.cells #[.int .i64 0] 3)) := by
 refine ⟨qab (qab (World.alloc_heap_new w _) _) _, qab ?_ _, ?_, qag (qag (qag (Below.refl _ _) _) _) _⟩
 ·
  have := World.alloc_heap_new (w.alloc (.cells #[.slice none 0 0] 37)) (.cells #[.int .i64 0] 3)
  rwa [World.size_alloc] at this
 ·
  have := World.alloc_heap_new ((w.alloc (.cells #[.slice none 0 0] 37)).alloc (.cells #[.int .i64 0] 3)) (.cells #[.int .i64 0] 3)
  rwa [World.size_alloc, World.size_alloc] at this
theorem Bx0.again {w W : World} (h : Bx0 w W) : Bx0 w (((W.setCell ⟨w.heap.size, 0, none⟩ (.slice none 0 0)).setCell ⟨w.heap.size + 1, 0, none⟩ (.int .i64 0)).setCell ⟨w.heap.size + 1 + 1, 0, none⟩ (.int .i64 0)) :=
  ⟨qau (qau (qaH h.c 0 _ rfl) (p := ⟨w.heap.size + 1, 0, none⟩) (by simp) _) (p := ⟨w.heap.size + 1 + 1, 0, none⟩) (by simp; omega) _,
   qau (qaH (qau h.s (p := ⟨w.heap.size, 0, none⟩) (by simp) _) 0 _ rfl) (p := ⟨w.heap.size + 1 + 1, 0, none⟩) (by simp) _,
   qaH (qau (qau h.l (p := ⟨w.heap.size, 0, none⟩) (by simp; omega) _) (p := ⟨w.heap.size + 1, 0, none⟩) (by simp) _) 0 _ rfl,
   qaf (qaf (qaf h.below (Nat.le_refl _)) (by omega)) (by omega)⟩
theorem results40 (tmps : Array Value) (W : World) (g1 g2 g3 : Nat) (v1 : Value) (n2 n3 : Int) (h6 : tmps.getD 6 undef = .pointer (some ⟨g1, 0, none⟩)) (h7 : tmps.getD 7 undef = .pointer (some ⟨g2, 0, none⟩)) (h8 : tmps.getD 8 undef = .pointer (some ⟨g3, 0, none⟩))
  (k1 : W.heap[g1]? = some (.cells #[v1] 37 (0, 0))) (k2 : W.heap[g2]? = some (.cells #[.int .i64 n2] 3 (0, 0))) (k3 : W.heap[g3]? = some (.cells #[.int .i64 n3] 3 (0, 0))) :
  (results Try.f40 tmps).run Try.prog W = .ok (.tuple #[v1, .int .i64 n2, .int .i64 n3, tmps.getD 9 undef]) W := by
 have c1 : W.cell? ⟨g1, 0, none⟩ = some v1 := (qai k1 0).trans rfl
 have c2 : W.cell? ⟨g2, 0, none⟩ = some (.int .i64 n2) := (qai k2 0).trans rfl
 have c3 : W.cell? ⟨g3, 0, none⟩ = some (.int .i64 n3) := (qai k3 0).trans rfl
 have h6' : tmps[6]?.getD undef = .pointer (some ⟨g1, 0, none⟩) := by simpa using h6
 have h7' : tmps[7]?.getD undef = .pointer (some ⟨g2, 0, none⟩) := by simpa using h7
 have h8' : tmps[8]?.getD undef = .pointer (some ⟨g3, 0, none⟩) := by simpa using h8
 simp [results, Try.results40, asAddr, h6', h7', h8', go_sem, c1, c2, c3]
theorem qoi : ∀ (l : List S136) (b : Bool), qaW.okc l b = true → b = true
 | [], b, h => h
 | c :: cs, b, h => by
  have := qoi cs _ h
  cases b with
  | true => rfl
  | false => simp at this
structure Bx1 (w : World) (tb n ct : Nat) (At : Option Addr) (sl : List Int) (W : World) : Prop where
 x : Bx0 w W
 t : W.heap[tb]? = some (.cells #[.slice At n ct] 137 (0, 0))
 r : Kd.R (Kd.int .i64) 139 W w.heap.size (fun _ => True) (.slice At n ct) sl
theorem Bx1.keep {w W W1 : World} {tb n ct : Nat} {At : Option Addr} {sl : List Int} (h : Bx1 w tb n ct At sl W) (hb : Below W.heap.size W W1) : Bx1 w tb n ct At sl W1 := ⟨h.x.keep hb, qar h.t hb, Kd.R_below h.r hb⟩
theorem Bx1.put {w W : World} {tb n ct tr : Nat} {sl : List Int} (h : Bx1 w tb n ct (some ⟨tr, 0, none⟩) sl W) (i : Nat) (x : Int) : Bx1 w tb n ct (some ⟨tr, 0, none⟩) (sl.set i x) (W.setCell ⟨tr, i, none⟩ (.int .i64 x)) := by
 obtain ⟨cs, hcs⟩ := Kd.R_typed h.r tr rfl
 have hne : ∀ {g t : Nat} {c : Array Value}, W.heap[g]? = some (.cells c t (0, 0)) → t ≠ 139 → g ≠ tr := fun {g t c} hg ht e => by
  rw [e, hcs] at hg
  injection hg with hg
  injection hg with _ hg
  exact ht hg.symm
 have hbt : w.heap.size ≤ tr := Kd.R_base h.r tr rfl
 have h1 := (Kd.R_putg h.r (i : Int) x).1
 rw [Int.toNat_natCast] at h1
 exact ⟨⟨qau h.x.c (p := ⟨tr, i, none⟩) (hne h.x.c (by decide)) _, qau h.x.s (p := ⟨tr, i, none⟩) (hne h.x.s (by decide)) _, qau h.x.l (p := ⟨tr, i, none⟩) (hne h.x.l (by decide)) _, qaf h.x.below hbt⟩, qau h.t (p := ⟨tr, i, none⟩) (hne h.t (by decide)) _, h1⟩
theorem qld {W : World} {g g' t t' : Nat} {c c' : Array Value} (h : W.heap[g]? = some (.cells c t (0, 0))) (h' : W.heap[g']? = some (.cells c' t' (0, 0))) (ht : t ≠ t') : g ≠ g' := fun e => by
 rw [e, h'] at h
 injection h with h
 injection h with _ h
 exact ht h.symm
theorem Bx1.ready {w W : World} {tb n ct c : Nat} {At A : Option Addr} {sl : List Int} {l0 : List S136} (h : Bx1 w tb n ct At sl W) (hn : sl.length = n) (hC : Kd.C k136 w A l0.length l0) (hc : l0.length ≤ c) :
  BxI w.heap.size (W.heap.size + 1) (w.heap.size + 1) (w.heap.size + 1 + 1) w.heap.size tb (W.heap.size + 1 + 1) W.heap.size A c l0 At ct sl
   (((W.alloc (.map #[] 0)).alloc (.cells #[.slice A l0.length c, .map (some W.heap.size)] 142)).alloc (.cells #[.func (.func 90) #[] #[.pointer (some ⟨W.heap.size + 1, 0, none⟩), .pointer (some ⟨w.heap.size + 1, 0, none⟩), .pointer (some ⟨w.heap.size + 1 + 1, 0, none⟩), .pointer (some ⟨w.heap.size, 0, none⟩), .pointer (some ⟨tb, 0, none⟩), .pointer (some ⟨W.heap.size + 1 + 1, 0, none⟩)]] 143)) ⟨[], 0, 0⟩ := by
 subst hn
 obtain ⟨Wf, hWf⟩ : ∃ Wf, (((W.alloc (.map #[] 0)).alloc (.cells #[.slice A l0.length c, .map (some W.heap.size)] 142)).alloc (.cells #[.func (.func 90) #[] #[.pointer (some ⟨W.heap.size + 1, 0, none⟩), .pointer (some ⟨w.heap.size + 1, 0, none⟩), .pointer (some ⟨w.heap.size + 1 + 1, 0, none⟩), .pointer (some ⟨w.heap.size, 0, none⟩), .pointer (some ⟨tb, 0, none⟩), .pointer (some ⟨W.heap.size + 1 + 1, 0, none⟩)]] 143)) = Wf := ⟨_, rfl⟩
 have hb : Below W.heap.size W Wf := by rw [← hWf]; exact qag (qag (qag (Below.refl _ _) _) _) _
 have hm : Wf.heap[W.heap.size]? = some (.map #[] 0) := by rw [← hWf]; exact qab (qab (World.alloc_heap_new W _) _) _
 have hs : Wf.heap[W.heap.size + 1]? = some (.cells #[.slice A l0.length c, .map (some W.heap.size)] 142 (0, 0)) := by
  rw [← hWf]
  refine qab ?_ _
  have := World.alloc_heap_new (W.alloc (.map #[] 0)) (.cells #[.slice A l0.length c, .map (some W.heap.size)] 142)
  rwa [World.size_alloc] at this
 have hf : Wf.heap[W.heap.size + 1 + 1]? = some (.cells #[.func (.func 90) #[] #[.pointer (some ⟨W.heap.size + 1, 0, none⟩), .pointer (some ⟨w.heap.size + 1, 0, none⟩), .pointer (some ⟨w.heap.size + 1 + 1, 0, none⟩), .pointer (some ⟨w.heap.size, 0, none⟩), .pointer (some ⟨tb, 0, none⟩), .pointer (some ⟨W.heap.size + 1 + 1, 0, none⟩)]] 143 (0, 0)) := by
  rw [← hWf]
  have := World.alloc_heap_new ((W.alloc (.map #[] 0)).alloc (.cells #[.slice A l0.length c, .map (some W.heap.size)] 142)) (.cells #[.func (.func 90) #[] #[.pointer (some ⟨W.heap.size + 1, 0, none⟩), .pointer (some ⟨w.heap.size + 1, 0, none⟩), .pointer (some ⟨w.heap.size + 1 + 1, 0, none⟩), .pointer (some ⟨w.heap.size, 0, none⟩), .pointer (some ⟨tb, 0, none⟩), .pointer (some ⟨W.heap.size + 1 + 1, 0, none⟩)]] 143)
  rwa [World.size_alloc, World.size_alloc] at this
 rw [hWf]
 have hlt0 := qaN h.x.l
 have hltt := qaN h.t
 have hbw : Below w.heap.size w Wf := h.x.below.trans (hb.mono h.x.below.size)
 have hrow : Kd.R (Kd.int .i64) 139 Wf w.heap.size (fun k => ¬ BxS (w.heap.size + 1) (w.heap.size + 1 + 1) w.heap.size W.heap.size k) (.slice At sl.length ct) sl := by
  refine Kd.R_mono (Kd.R_bound (Kd.R_below h.r hb)) (fun k hk e => ?_)
  obtain ⟨_, _, _, q, hq, cs, hcs⟩ := hk
  have hq9 : q = 139 := by simpa [Kd.int, Kd.scalar] using hq
  subst hq9
  rcases e with e | e | e | e
  · exact qld hcs (qar h.x.s hb) (by decide) e
  · exact qld hcs (qar h.x.l hb) (by decide) e
  · exact qld hcs (qar h.x.c hb) (by decide) e
  · rw [e, hm] at hcs; cases hcs
 refine ⟨hs, qar h.x.s hb, qar h.x.l hb, ⟨_, qar h.x.c hb, Kd.R_nil _ _ _ _ _⟩, qar h.t hb, hf, hrow, ⟨_, _, hm, fun e he => by simp at he⟩, Kd.C_below hC hbw, hc, ⟨by omega, by omega, by omega, by omega⟩,
  ⟨qld h.t h.x.s (by decide), qld h.t h.x.l (by decide), qld h.t h.x.c (by decide), by omega⟩, ⟨by omega, by omega, by omega, by omega⟩, ⟨by omega, by omega, by omega, by omega, by omega, by omega⟩, ⟨by omega, by omega, by omega, by omega⟩, fun W' hb' => Kd.C_below hC (hbw.trans hb')⟩
theorem qtd : (Try.prog.info? 139).map (fun i => (i.zero, i.size, i.bytes)) = some (some (.agg #[.int .i64 0]), 1, 8) := by kernel_rfl
set_option maxHeartbeats 8000000 in
set_option maxRecDepth 100000 in
theorem qaW.calls (A0 : Option Addr) (c0 : Nat) (l0 : List S136) (A1 : Option Addr) (c1 : Nat) (l1 : List (List Int)) (a2 : Int) (r1 : List Int) (r2 r3 r4 : Int) (w : World) (hr0 : Kd.C k136 w A0 l0.length l0) (hc0 : l0.length ≤ c0) (hr1 : Kd.C (Kd.slice 3 (Kd.int .i64)) w A1 l1.length l1) (hc1 : l1.length ≤ c1) (h : qaW.f l0 l1 a2 = some (r1, r2, r3, r4)) :
  Calls Try.prog 40 #[.slice A0 l0.length c0, .slice A1 l1.length c1, .int .i64 a2] w fun e w' => ∃ v0_, e = .returned (.tuple #[v0_, .int .i64 r2, .int .i64 r3, .int .i64 r4]) ∧ Kd.V (Kd.int .i64) 3 w' w.heap.size (fun k_ => w.heap.size ≤ k_) v0_ r1 ∧ Below w.heap.size w w' := by
 obtain ⟨hsz, hg⟩ : l1.length ≤ 35184372088832 ∧ qaW.g l0 l1 a2 = (r1, r2, r3, r4) := by
  unfold qaW.f at h
  by_cases hs : l1.length ≤ 35184372088832
  · rw [if_pos hs] at h; exact ⟨hs, Option.some.inj h⟩
  · rw [if_neg hs] at h; cases h
 clear h
 have hmx0 : l0.length ≤ 9223372036854775807 := hr0.2.1
 have hmx1 : l1.length ≤ 9223372036854775807 := hr1.2.1
 have HR0 := qaa.mk hr0
 have HR1 := qaa.mk hr1
 have HG := qaa.mk hg
 have qpD := Try.underlying136
 obtain ⟨ok, hok⟩ : ∃ ok, qaW.okc l0 (decide ((l0.length : Int) ≤ 12) && decide ((l1.length : Int) ≤ 8)) = ok := ⟨_, rfl⟩
 have HOK := qaa.mk hok
 have HX0 := qaa.mk (Bx0.start w)
 obtain ⟨ok1, hok1⟩ : ∃ b, (decide ((l0.length : Int) ≤ 12) && decide ((l1.length : Int) ≤ 8)) = b := ⟨_, rfl⟩
 rw [hok1] at HOK
 obtain ⟨W0, hW0⟩ : ∃ W0, ((w.alloc (.cells #[.slice none 0 0] 37)).alloc (.cells #[.int .i64 0] 3)).alloc (.cells #[.int .i64 0] 3) = W0 := ⟨_, rfl⟩
 rw [hW0] at HX0
 have HOK1 := qaa.mk hok1
 clear hr0 hr1 hg hok hok1
 go_enter Try.func40, Try.ntmps40
 go_upto_region 1 with (fail)
 go_cut [10] (fun v10 wc => v10 = .bool ok1 ∧ wc = W0)
 case first =>
  by_cases h12 : (l0.length : Int) ≤ 12
  ·
   have g12 : decide ((l0.length : Int) ≤ 12) = true := decide_eq_true h12
   by_cases h8 : (l1.length : Int) ≤ 8
   ·
    have g8 : decide ((l1.length : Int) ≤ 8) = true := decide_eq_true h8
    go_wp2
    go_meet
    case rel => exact ⟨by rw [← HOK1.out, g12, g8]; rfl, rfl⟩
   ·
    have g8 : decide ((l1.length : Int) ≤ 8) = false := decide_eq_false h8
    go_wp2
    go_meet
    case rel => exact ⟨by rw [← HOK1.out, g12, g8]; rfl, rfl⟩
  ·
   have g12 : decide ((l0.length : Int) ≤ 12) = false := decide_eq_false h12
   go_wp2
   go_meet
   case rel => exact ⟨by rw [← HOK1.out, g12]; rfl, rfl⟩
 case rest =>
  obtain ⟨rfl, rfl⟩ := hcut
  go_wp2
  go_loopg [10, 32] l0.length (fun d v10 v32 wr => ∃ (b : Bool) (i : Nat), v10 = .bool b ∧ v32 = .int .i64 (i : Int) ∧ qaa (i + d = l0.length) ∧ qaa (qaW.okc (l0.drop i) b = ok) ∧ qaa (Bx0 w wr))
  case atStart => exact ⟨ok1, 0, rfl, rfl, ⟨by omega⟩, ⟨by simpa using HOK.out⟩, HX0⟩
  case round =>
   obtain ⟨b, i, rfl, rfl, HD, HO, HX⟩ := hrel
   by_cases hi : i < l0.length
   ·
    obtain ⟨d, rfl⟩ : ∃ d, gk = d + 1 := ⟨gk - 1, by have := HD.out; omega⟩; obtain ⟨ad, ea, hx0, hx1⟩ := qoD HR0.out (i : Int) (by omega) (by omega); subst ea; replace hx0 := (HX.out.below.cell (World.block_lt_of_cell? w _ hx0)).trans hx0; replace hx1 := (HX.out.below.cell (World.block_lt_of_cell? w _ hx1)).trans hx1; rw [Int.toNat_natCast] at hx0 hx1
    have ho2 : qaW.okc (l0.drop (i + 1)) (b && wi (qeK l0 (i : Int)).f0 0 10000 && wi (qeK l0 (i : Int)).f1 0 10000) = ok := by
     have h5 := HO.out
     have e : qeK l0 (i : Int) = l0[i] := by simp [qeK, List.getD_eq_getElem?_getD, List.getElem?_eq_getElem hi]
     rw [List.drop_eq_getElem_cons hi] at h5; rw [e]
     exact h5
    obtain ⟨e0, he0⟩ : ∃ e0, (qeK l0 (i : Int)).f0 = e0 := ⟨_, rfl⟩; obtain ⟨e1, he1⟩ : ∃ e1, (qeK l0 (i : Int)).f1 = e1 := ⟨_, rfl⟩; rw [he0] at hx0 ho2; rw [he1] at hx1 ho2; have HO2 := qaa.mk ho2; clear ho2 he0 he1 HO
    cases b with
    | false =>
     go_wp2
     go_roundg d
     case measure => omega
     case rel => exact ⟨false, i + 1, rfl, by simp, ⟨by have := HD.out; omega⟩, ⟨by simpa using HO2.out⟩, ⟨HX.out.keep (qag (Below.refl _ _) _)⟩⟩
    | true =>
     obtain ⟨b1, hb1⟩ : ∃ b1, wi e0 0 10000 = b1 := ⟨_, rfl⟩
     cases b1 with
     | false =>
      have HO3 := HO2.out; rw [hb1] at HO3
      go_wp2_with (go_at_call 65; refine (qhx _ _ _ _).mono ?_; rintro e w' ⟨rfl, ⟨nd, rfl⟩⟩)
      go_roundg d
      case measure => omega
      case rel => exact ⟨false, i + 1, rfl, by simp, ⟨by have := HD.out; omega⟩, ⟨by simpa using HO3⟩, ⟨HX.out.keep (qad (qag (Below.refl _ _) _) _)⟩⟩
     | true =>
      have HO3 := HO2.out; rw [hb1] at HO3
      go_wp2_with (go_at_call 65; refine (qhx _ _ _ _).mono ?_; rintro e w' ⟨rfl, ⟨nd, rfl⟩⟩)
      go_roundg d
      case measure => omega
      case rel => exact ⟨wi e1 0 10000, i + 1, rfl, by simp, ⟨by have := HD.out; omega⟩, ⟨by simpa using HO3⟩, ⟨HX.out.keep (by repeat (first | exact Below.refl _ _ | apply qad | apply qag))⟩⟩
   ·
    have hio : b = ok := by
     have h5 := HO.out; rw [List.drop_eq_nil_of_le (by omega)] at h5
     exact h5
    subst hio; clear HD HO
    go_wp2_with ((with_reducible refine quD (.makeSlice 137 (.tmp 49) (.tmp 49)) rfl ?_); refine Kd.R_make (Kd.int .i64) w.heap.size 139 rfl (N := 50) rfl 137 _ _ rfl (l1.length : Int) rfl rfl Try.underlying137 (.agg #[.int .i64 0]) 8 qtd rfl (by decide) (by omega) 0 (ok := fun _ => True) (okp := fun _ => True) rfl (fun _ hk => hk) trivial (by omega) (by simp; omega) HX.out.below HX.out.below.size ?_; intro v1 w1 hv1 hb1 hg1 hn1; obtain ⟨At, ct, ev, hct, hCt⟩ := Kd.R_reads hv1; rw [List.length_replicate, Int.toNat_natCast] at ev; subst ev)
    clear hi
    have hX1 : Bx1 w w1.heap.size l1.length ct At (List.replicate l1.length 0) (w1.alloc (.cells #[.slice At l1.length ct] 137)) := by
     rw [Int.toNat_natCast] at hv1
     exact ⟨(HX.out.keep ((Below.refl _ wr).grown hg1 (Nat.le_refl _) (fun k e => by cases e))).keep (qag (Below.refl _ _) _), World.alloc_heap_new _ _, Kd.R_below hv1 (qag (Below.refl _ _) _)⟩
    have hnt : w1.heap.size < (w1.alloc (.cells #[.slice At l1.length ct] 137)).heap.size := by simp
    have HX1 := qaa.mk hX1; obtain ⟨rr, hrr⟩ : ∃ rr, qaW.rows (l0.length : Int) l1 = rr := ⟨_, rfl⟩; have HRR := qaa.mk hrr; obtain ⟨tb, htb⟩ : ∃ tb, w1.heap.size = tb := ⟨_, rfl⟩; rw [htb] at HX1 ⊢; clear hX1 hrr hv1 hb1 hg1 hn1 hct hCt HX hnt
    go_loopg [53] l1.length (fun d v53 wr => ∃ (i : Nat), v53 = .int .i64 (i : Int) ∧ qaa (i + d = l1.length) ∧ qaa (∃ done : List Int, done.length = i ∧ rr = (qaW.rows (l0.length : Int) (l1.drop i)).map (done ++ ·) ∧ Bx1 w tb l1.length ct At (done ++ List.replicate (l1.length - i) 0) wr))
    case atStart => exact ⟨0, rfl, ⟨by omega⟩, ⟨[], rfl, by rw [List.drop_zero, HRR.out]; simp, by simpa using HX1.out⟩⟩
    case round =>
     clear HX1 htb; obtain ⟨i, rfl, HD, HE⟩ := hrel; obtain ⟨done, hdl, hdr, hX⟩ := HE.out
     by_cases hi : i < l1.length
     ·
      obtain ⟨d, rfl⟩ : ∃ d, gk = d + 1 := ⟨gk - 1, by have := HD.out; omega⟩; obtain ⟨ad, Al, cl, ea, hxl, hcl, hCl⟩ := qnF HR1.out (i : Int) (by omega) (by omega); subst ea; replace hxl := (hX.x.below.cell (World.block_lt_of_cell? w _ hxl)).trans hxl; rw [Int.toNat_natCast] at hxl; obtain ⟨lst, hlst⟩ : ∃ lst, qa2 l1 (i : Int) = lst := ⟨_, rfl⟩; rw [hlst] at hxl hcl hCl
      have hdrop : l1.drop i = lst :: l1.drop (i + 1) := by
       rw [List.drop_eq_getElem_cons hi, ← hlst]
       congr 1
       simp [qa2, List.getD_eq_getElem?_getD, List.getElem?_eq_getElem hi]
      have hdr2 : rr = ((qaW.rowf (l0.length : Int) lst (-1) 0).bind fun x => (qaW.rows (l0.length : Int) (l1.drop (i + 1))).map (x :: ·)).map (done ++ ·) := by rw [hdr, hdrop]; rfl
      have hrep : List.replicate (l1.length - i) (0 : Int) = 0 :: List.replicate (l1.length - (i + 1)) 0 := by
       rw [show l1.length - i = (l1.length - (i + 1)) + 1 by omega, List.replicate_succ]
      rw [hrep] at hX; have hmxl : lst.length ≤ 9223372036854775807 := hCl.2.1; have HX := qaa.mk hX; have HCL := qaa.mk hCl; have HDL := qaa.mk hdl; have HDR2 := qaa.mk hdr2; clear hX hCl hdl hdr2 hdr hdrop hrep hlst hcl HE; obtain ⟨wo, hwo⟩ : ∃ wo : World, wo = wr := ⟨_, rfl⟩; subst hwo
      go_wp2
      go_loopg [16, 60] lst.length (fun d2 v16 v60 wr => ∃ (last : Int) (j : Nat) (acc : Int), v16 = .int .i64 last ∧ v60 = .int .i64 (j : Int) ∧ qaa (j + d2 = lst.length) ∧ qaa (-1 ≤ last ∧ last < (l0.length : Int) ∨ last = -1) ∧ qaa (qaW.rowf (l0.length : Int) lst (-1) 0 = qaW.rowf (l0.length : Int) (lst.drop j) last acc) ∧ qaa (Bx1 w tb l1.length ct At (done ++ acc :: List.replicate (l1.length - (i + 1)) 0) wr))
      case atStart => exact ⟨-1, 0, 0, rfl, rfl, ⟨by omega⟩, ⟨.inr rfl⟩, ⟨by simp⟩, HX⟩
      case round =>
       obtain ⟨last, j, acc, rfl, rfl, HD2, HLA, HRO, HX2⟩ := hrel
       have hla : -1 ≤ last ∧ last ≤ 9223372036854775806 := by rcases HLA.out with h | h <;> omega
       clear HX
       by_cases hj : j < lst.length
       ·
        obtain ⟨d2, rfl⟩ : ∃ d2, gk = d2 + 1 := ⟨gk - 1, by have := HD2.out; omega⟩; obtain ⟨adl, eal, hxc⟩ := Kd.at_int (Kd.C_below HCL.out HX2.out.x.below) (j : Int) (by omega) (by omega); subst eal; rw [Int.toNat_natCast] at hxc; obtain ⟨cc, hcc⟩ : ∃ cc, rd lst (j : Int) = cc := ⟨_, rfl⟩
        have hro2 : qaW.rowf (l0.length : Int) lst (-1) 0 = if wi cc (last + 1) ((l0.length : Int) - 1) = true then qaW.rowf (l0.length : Int) (lst.drop (j + 1)) cc (Go.bits .or .i64 acc (shl .i64 1 cc)) else none := by
         rw [HRO.out, List.drop_eq_getElem_cons hj, ← hcc]
         have e : rd lst (j : Int) = lst[j] := by simp [rd, List.getD_eq_getElem?_getD, List.getElem?_eq_getElem hj]
         rw [e]; rfl
        rw [hcc] at hxc; clear hcc HRO
        by_cases hw : wi cc (last + 1) ((l0.length : Int) - 1) = true
        ·
         rw [if_pos hw] at hro2; have HRO2 := qaa.mk hro2; clear hro2; obtain ⟨hw1, hw2⟩ := qqq.1 hw; obtain ⟨tr, cr, er, _, _, _, _⟩ := Kd.R_form HX2.out.r (by simp; omega)
         injection er with e1 e0 e2
         clear e0; subst e1 e2; have hX3 := HX2.out; clear HX2
         have hel : wr.cell? ⟨tr, i, none⟩ = some (.int .i64 acc) := by
          obtain ⟨ad2, ea2, hel⟩ := Kd.at_int (Kd.R_reads' hX3.r).2.2 (i : Int) (by omega) (by have := HDL.out; simp; omega)
          injection ea2 with ea2
          subst ea2; rw [Int.toNat_natCast, qid] at hel; rw [hel]; have := HDL.out
          simp [rd, List.getD_eq_getElem?_getD, this]
         obtain ⟨gcs, hgcs⟩ := Kd.R_typed hX3.r tr rfl; have hef : wr.frozen? ⟨tr, i, none⟩ = false := qaj hgcs i; have htb : wr.cell? ⟨tb, 0, none⟩ = some (.slice (some ⟨tr, 0, none⟩) l1.length ct) := (qai hX3.t 0).trans rfl; obtain ⟨sh, hsh⟩ : ∃ sh, shl .i64 1 cc = sh := ⟨_, rfl⟩; have hr3 := HRO2.out; rw [hsh] at hr3; have HRO3 := qaa.mk hr3; have hji_ : (IntKind.i64.wrap (1 * 2 ^ min cc.toNat 64)) = sh := hsh; have hjiz : cc ≤ 64 → (IntKind.i64.wrap (1 * 2 ^ cc.toNat)) = sh := qqn hsh
         have hjiu : (IntKind.i64.wrap (2 ^ min cc.toNat 64)) = sh := by have h_ := hji_; rw [Int.one_mul] at h_; exact h_
         have hjiv : cc ≤ 64 → (IntKind.i64.wrap (2 ^ cc.toNat)) = sh := fun hle_ => by have h_ := hjiz hle_; rw [Int.one_mul] at h_; exact h_
         obtain ⟨or, hor⟩ : ∃ o, Go.bits .or .i64 acc sh = o := ⟨_, rfl⟩; have HX3 := qaa.mk hX3; clear hX3 hgcs hsh hr3 HRO2
         have hcc0 : 0 ≤ cc := by omega
         go_wp2_with (go_at_call 65; refine (qhx _ _ _ _).mono ?_; rintro e w' ⟨rfl, ⟨nd, rfl⟩⟩)
         obtain ⟨w9, hw9⟩ : ∃ w9, wr.drewN nd = w9 := ⟨_, rfl⟩
         have hel9 : w9.cell? ⟨tr, i, none⟩ = some (.int .i64 acc) := by rw [← hw9]; exact hel
         have hef9 : w9.frozen? ⟨tr, i, none⟩ = false := by rw [← hw9]; exact hef
         have htb9 : w9.cell? ⟨tb, 0, none⟩ = some (.slice (some ⟨tr, 0, none⟩) l1.length ct) := by rw [← hw9]; exact htb
         have HX9 := qaa.mk (show Bx1 w tb l1.length ct (some ⟨tr, 0, none⟩) (done ++ acc :: List.replicate (l1.length - (i + 1)) 0) w9 by rw [← hw9]; exact HX3.out.keep (qad (Below.refl _ _) nd)); rw [hw9]; clear hw9 hel hef htb HX3
         go_still_tail 10, (by kernel_rfl)
         change wpList _ _ _ _ _ (World.drew _)
         go_wp2
         go_roundg d2
         case measure => omega
         case rel =>
          have hset : (done ++ acc :: List.replicate (l1.length - (i + 1)) 0).set i or = done ++ or :: List.replicate (l1.length - (i + 1)) 0 := by
           rw [← HDL.out, List.set_append_right _ _ (Nat.le_refl _), Nat.sub_self, List.set_cons_zero]
          have hput := HX9.out.put i or; rw [hset] at hput; refine ⟨cc, j + 1, or, rfl, by simp, ⟨by have := HD2.out; omega⟩, ⟨.inl ⟨by omega, by omega⟩⟩, ⟨?_⟩, ⟨hput.keep (qbC (Below.refl _ _))⟩⟩; rw [HRO3.out, hor]
        ·
         replace hw := Bool.eq_false_iff.mpr hw; rw [if_neg (by rw [hw]; decide)] at hro2
         have hrn : rr = none := by rw [HDR2.out, hro2]; rfl
         have hg := HG.out; unfold qaW.g at hg; rw [HRR.out, hrn] at hg; replace hg : (([], 0, 0, 94) : List Int × Int × Int × Int) = (r1, r2, r3, r4) := hg
         injection hg with e1 hg
         injection hg with e2 hg
         injection hg with e3 e4
         subst e1 e2 e3 e4; clear hro2 hrn; have hcb : wr.cell? ⟨w.heap.size, 0, none⟩ = some (.slice none 0 0) := (qai HX2.out.x.c 0).trans rfl; have hsb : wr.cell? ⟨w.heap.size + 1, 0, none⟩ = some (.int .i64 0) := (qai HX2.out.x.s 0).trans rfl; have hlb : wr.cell? ⟨w.heap.size + 1 + 1, 0, none⟩ = some (.int .i64 0) := (qai HX2.out.x.l 0).trans rfl; have hfc := qaj HX2.out.x.c 0; have hfs := qaj HX2.out.x.s 0; have hfl := qaj HX2.out.x.l 0
         go_wp2_with (go_at_call 65; refine (qhx _ _ _ _).mono ?_; rintro e w' ⟨rfl, ⟨nd, rfl⟩⟩)
         have hXf := (HX2.out.x.keep (qad (Below.refl _ _) nd)).again; refine bodyPost_ret (results40 _ _ _ _ _ (.slice none 0 0) 0 0 rfl rfl rfl hXf.c hXf.s hXf.l) rfl ?_
         exact ⟨_, rfl, Kd.V_nil _ _ _ _ _, hXf.below⟩
       ·
        have hjl : j = lst.length := by have := HD2.out; omega
        subst hjl; have hr5 := HRO.out; rw [List.drop_length] at hr5; replace hr5 : qaW.rowf (l0.length : Int) lst (-1) 0 = some acc := hr5
        have hr6 : rr = (qaW.rows (l0.length : Int) (l1.drop (i + 1))).map ((done ++ [acc]) ++ ·) := by
         rw [HDR2.out, hr5]
         cases qaW.rows (l0.length : Int) (l1.drop (i + 1)) with
         | none => rfl
         | some z => simp
        have HR6 := qaa.mk hr6; clear hr5 hr6 HRO
        go_wp2
        go_roundg d
        case measure => omega
        case rel =>
         refine ⟨i + 1, by simp, ⟨by have := HD.out; omega⟩, ⟨done ++ [acc], by have := HDL.out; simp; omega, HR6.out, ?_⟩⟩; have h7 := HX2.out
         rwa [List.append_cons] at h7
     ·
      have hil : i = l1.length := by have := HD.out; omega
      subst hil; rw [List.drop_length] at hdr; replace hdr : rr = some (done ++ []) := hdr; rw [List.append_nil] at hdr; rw [Nat.sub_self, List.replicate_zero, List.append_nil] at hX; have hg := HG.out; unfold qaW.g at hg; rw [HRR.out, hdr] at hg
      replace hg : (if qaW.okc l0 (decide ((l0.length : Int) ≤ 12) && decide ((l1.length : Int) ≤ 8)) = true then
   if wi a2 0 8 = true then
    ((qaW.tries l0 done (min a2.toNat done.length + 1) 0 ⟨[], 0, 0⟩).ch, (qaW.tries l0 done (min a2.toNat done.length + 1) 0 ⟨[], 0, 0⟩).sp, (qaW.tries l0 done (min a2.toNat done.length + 1) 0 ⟨[], 0, 0⟩).lo, 0)
   else ([], 0, 0, 7)
  else ([], 0, 0, 94)) = (r1, r2, r3, r4) := hg
      rw [HOK1.out, HOK.out] at hg; have HX := qaa.mk hX; have HDL := qaa.mk hdl; clear hX hdl hdr HE
      cases b with
      | false =>
       rw [if_neg (by decide)] at hg
       injection hg with e1 hg
       injection hg with e2 hg
       injection hg with e3 e4
       subst e1 e2 e3 e4; have hcb : wr.cell? ⟨w.heap.size, 0, none⟩ = some (.slice none 0 0) := (qai HX.out.x.c 0).trans rfl; have hsb : wr.cell? ⟨w.heap.size + 1, 0, none⟩ = some (.int .i64 0) := (qai HX.out.x.s 0).trans rfl; have hlb : wr.cell? ⟨w.heap.size + 1 + 1, 0, none⟩ = some (.int .i64 0) := (qai HX.out.x.l 0).trans rfl; have hfc := qaj HX.out.x.c 0; have hfs := qaj HX.out.x.s 0; have hfl := qaj HX.out.x.l 0
       go_wp2
       have hXf := HX.out.x.again; refine bodyPost_ret (results40 _ _ _ _ _ (.slice none 0 0) 0 0 rfl rfl rfl hXf.c hXf.s hXf.l) rfl ?_
       exact ⟨_, rfl, Kd.V_nil _ _ _ _ _, hXf.below⟩
      | true =>
       rw [if_pos rfl] at hg
       by_cases hw8 : wi a2 0 8 = true
       ·
        rw [if_pos hw8] at hg
        have hn8 : done.length ≤ 8 := by
         have h1 := HOK.out; have h1 := qoi _ _ h1; rw [← HOK1.out] at h1; have := HDL.out
         simp at h1
         omega
        obtain ⟨ha0, ha8⟩ := qqq.1 hw8; obtain ⟨stF, hstF⟩ : ∃ stF, qaW.tries l0 done (min a2.toNat done.length + 1) 0 ⟨[], 0, 0⟩ = stF := ⟨_, rfl⟩; rw [hstF] at hg
        injection hg with e1 hg
        injection hg with e2 hg
        injection hg with e3 e4
        subst e1 e2 e3 e4; have HST := qaa.mk hstF; have htb : wr.cell? ⟨tb, 0, none⟩ = some (.slice At l1.length ct) := (qai HX.out.t 0).trans rfl; have hmm := @run_makeMap Try.prog; have qrB := Try.underlying142; have hltt := qaN HX.out.t; have hw8b : wi a2 0 8 = true := hw8; clear hstF hw8
        go_upto_region 25 with ((go_at_call 65; refine (qhx _ _ _ _).mono ?_; rintro e w' ⟨rfl, ⟨nd, rfl⟩⟩))
        obtain ⟨w9, hw9⟩ : ∃ w9, wr.drewN nd = w9 := ⟨_, rfl⟩; have HX9 := qaa.mk (show Bx1 w tb l1.length ct At done w9 by rw [← hw9]; exact HX.out.keep (qad (Below.refl _ _) nd)); rw [hw9]; clear hw9 htb HX; have hR := HX9.out.ready HDL.out HR0.out hc0; obtain ⟨W3, hW3⟩ : ∃ W3, (((w9.alloc (.map #[] 0)).alloc (.cells #[.slice A0 l0.length c0, .map (some w9.heap.size)] 142)).alloc (.cells #[.func (.func 90) #[] #[.pointer (some ⟨w9.heap.size + 1, 0, none⟩), .pointer (some ⟨w.heap.size + 1, 0, none⟩), .pointer (some ⟨w.heap.size + 1 + 1, 0, none⟩), .pointer (some ⟨w.heap.size, 0, none⟩), .pointer (some ⟨tb, 0, none⟩), .pointer (some ⟨w9.heap.size + 1 + 1, 0, none⟩)]] 143)) = W3 := ⟨_, rfl⟩; have hB3 : Below w.heap.size w W3 := HX9.out.x.below.trans (by rw [← hW3]; exact (qag (qag (qag (Below.refl _ _) _) _) _).mono HX9.out.x.below.size); rw [hW3] at hR; have HR := qaa.mk hR; have HB3 := qaa.mk hB3; have htb3 : W3.cell? ⟨tb, 0, none⟩ = some (.slice At done.length ct) := (qai hR.tbx 0).trans rfl; have qDc := qaN HX9.out.t; obtain ⟨mm, hmn⟩ : ∃ mm : Nat, (if (done.length : Int) < a2 then (done.length : Int) else a2) = (mm : Int) := ⟨min a2.toNat done.length, by split <;> omega⟩
        have hmin : min a2.toNat done.length = mm := by split at hmn <;> omega
        have HMM := qaa.mk hmin
        have hm8 : mm ≤ 8 := by omega
        clear hR hB3 hmin
        go_wp2
        have hst2 := HST.out; rw [HMM.out] at hst2; have HST2 := qaa.mk hst2; clear hst2 htb3 hmn hmm hW3
        go_loopg [99] (mm + 1) (fun d v99 wr => ∃ (k : Nat), v99 = .int .i64 (k : Int) ∧ qaa (k + d = mm + 1) ∧ qaa (∃ st', BxI w.heap.size (w9.heap.size + 1) (w.heap.size + 1) (w.heap.size + 1 + 1) w.heap.size tb (w9.heap.size + 1 + 1) w9.heap.size A0 c0 l0 At ct done wr st' ∧ qaW.tries l0 done d k st' = stF) ∧ qaa (Below w.heap.size w wr))
        case atStart => exact ⟨0, rfl, ⟨by omega⟩, ⟨_, HR.out, HST2.out⟩, HB3⟩
        case round =>
         obtain ⟨k, rfl, HK4, HS4, HB4⟩ := hrel; obtain ⟨st', hI4, hT4⟩ := HS4.out
         by_cases hk : k < mm + 1
         ·
          obtain ⟨d, rfl⟩ : ∃ d, gk = d + 1 := ⟨gk - 1, by have := HK4.out; omega⟩
          have hki : (k : Int) < (mm : Int) + 1 := by omega
          have hfb : wr.cell? ⟨w9.heap.size + 1 + 1, 0, none⟩ = some (.func (.func 90) #[] #[.pointer (some ⟨w9.heap.size + 1, 0, none⟩), .pointer (some ⟨w.heap.size + 1, 0, none⟩), .pointer (some ⟨w.heap.size + 1 + 1, 0, none⟩), .pointer (some ⟨w.heap.size, 0, none⟩), .pointer (some ⟨tb, 0, none⟩), .pointer (some ⟨w9.heap.size + 1 + 1, 0, none⟩)]) := (qai hI4.fbx 0).trans rfl; have hNw : w.heap.size ≤ wr.heap.size := HB4.out.size; have hcall := qgh.calls (many := (k : Int)) hn8 done.length (.slice none 0 0) [] 0 st' wr (.inl ⟨rfl, rfl⟩) (by simp) hI4 hNw (Kd.R_nil _ _ _ _ _) (by decide); have HCALL := qaa.mk hcall; have HT4 := qaa.mk (show qaW.tries l0 done d (k + 1) (qaW.cz l0 done (k : Int) done.length [] 0 st') = stF from hT4); clear hcall hT4 hI4 HS4
          go_wp2_with ((with_reducible refine qa1 (N := 105) rfl ?_); refine qjb (some 105) rfl rfl Try.func90 ?hnm rfl #[.slice none 0 0, .agg #[.int .i64 0], .int .i64 (k : Int), .pointer (some ⟨w9.heap.size + 1, 0, none⟩), .pointer (some ⟨w.heap.size + 1, 0, none⟩), .pointer (some ⟨w.heap.size + 1 + 1, 0, none⟩), .pointer (some ⟨w.heap.size, 0, none⟩), .pointer (some ⟨tb, 0, none⟩), .pointer (some ⟨w9.heap.size + 1 + 1, 0, none⟩)] 102 #[] #[.pointer (some ⟨w9.heap.size + 1, 0, none⟩), .pointer (some ⟨w.heap.size + 1, 0, none⟩), .pointer (some ⟨w.heap.size + 1 + 1, 0, none⟩), .pointer (some ⟨w.heap.size, 0, none⟩), .pointer (some ⟨tb, 0, none⟩), .pointer (some ⟨w9.heap.size + 1 + 1, 0, none⟩)] rfl ?hevC ?hagC ?_; (case hnm => kernel_rfl); (case hevC => rfl); (case hagC => simp only [List.map_toArray, List.map_cons, List.map_nil]; rfl); refine HCALL.out.mono ?_; rintro e W' ⟨⟨u, rfl⟩, hIe, hKe, hBe⟩; refine ⟨u, rfl, ?_⟩)
          go_roundg d
          case measure => omega
          case rel => exact ⟨k + 1, by simp, ⟨by have := HK4.out; omega⟩, ⟨_, hIe, HT4.out⟩, ⟨HB4.out.trans hBe⟩⟩
         ·
          have hki : ¬ ((k : Int) < (mm : Int) + 1) := by omega
          have hd0 : gk = 0 := by have := HK4.out; omega
          subst hd0; replace hT4 : st' = stF := hT4; subst hT4; obtain ⟨vc, hcb, hcr⟩ := hI4.chb; have hc6 : wr.cell? ⟨w.heap.size, 0, none⟩ = some vc := (qai hcb 0).trans rfl; have hc7 : wr.cell? ⟨w.heap.size + 1, 0, none⟩ = some (.int .i64 st'.sp) := (qai hI4.spb 0).trans rfl; have hc8 : wr.cell? ⟨w.heap.size + 1 + 1, 0, none⟩ = some (.int .i64 st'.lo) := (qai hI4.lob 0).trans rfl; have hf6 := qaj hcb 0; have hf7 := qaj hI4.spb 0; have hf8 := qaj hI4.lob 0; obtain ⟨Ac, cc, rfl, hcc, hCc⟩ := Kd.R_reads hcr; have HI4 := qaa.mk hI4; have HCR := qaa.mk hcr; clear hI4 hcr hcb HS4 hCc
          go_wp2
          go_region
          go_wp2
          obtain ⟨g1, g2, g3⟩ := HI4.out.put (s1 := st'.sp) (s2 := st'.lo) HCR.out; obtain ⟨v7, k1, k2⟩ := g1.chb; have hbd := (g2.1); have hf1 := (qaH (qau (qau HI4.out.lob (p := ⟨w.heap.size, 0, none⟩) HI4.out.n4.2.2.2.1 (.slice Ac st'.ch.length cc)) (p := ⟨w.heap.size + 1, 0, none⟩) (Ne.symm HI4.out.n4.1) (.int .i64 st'.sp)) 0 (.int .i64 st'.lo) rfl)
          have hk6 : (((wr.setCell ⟨w.heap.size, 0, none⟩ (.slice Ac st'.ch.length cc)).setCell ⟨w.heap.size + 1, 0, none⟩ (.int .i64 st'.sp)).setCell ⟨w.heap.size + 1 + 1, 0, none⟩ (.int .i64 st'.lo)).heap[w.heap.size]? = some (.cells #[.slice Ac st'.ch.length cc] 37 (0, 0)) := by
           obtain ⟨v0, q1, _⟩ := HI4.out.chb
           exact qau (qau (qaH q1 0 _ rfl) (p := ⟨w.heap.size + 1, 0, none⟩) (by simp) _) (p := ⟨w.heap.size + 1 + 1, 0, none⟩) (by simp; omega) _
          have hRf : Kd.R (Kd.int .i64) 3 (((wr.setCell ⟨w.heap.size, 0, none⟩ (.slice Ac st'.ch.length cc)).setCell ⟨w.heap.size + 1, 0, none⟩ (.int .i64 st'.sp)).setCell ⟨w.heap.size + 1 + 1, 0, none⟩ (.int .i64 st'.lo)).drew w.heap.size (fun k_ => w.heap.size ≤ k_) (.slice Ac st'.ch.length cc) st'.ch :=
           Kd.R_drew (Kd.R_mono (Kd.R_bound (Kd.R_kept HCR.out g2 (fun k hk => hk))) (fun k hk => hk.2.1))
          refine bodyPost_ret (results40 _ _ _ _ _ (.slice Ac st'.ch.length cc) st'.sp st'.lo rfl rfl rfl hk6 g1.spb g1.lob) rfl ?_
          exact ⟨_, rfl, Kd.R_V hRf, (HB4.out.trans g3).trans (qbC (Below.refl w.heap.size _))⟩
       ·
        replace hw8 := Bool.eq_false_iff.mpr hw8; rw [if_neg (by rw [hw8]; decide)] at hg
        injection hg with e1 hg
        injection hg with e2 hg
        injection hg with e3 e4
        subst e1 e2 e3 e4; have hcb : wr.cell? ⟨w.heap.size, 0, none⟩ = some (.slice none 0 0) := (qai HX.out.x.c 0).trans rfl; have hsb : wr.cell? ⟨w.heap.size + 1, 0, none⟩ = some (.int .i64 0) := (qai HX.out.x.s 0).trans rfl; have hlb : wr.cell? ⟨w.heap.size + 1 + 1, 0, none⟩ = some (.int .i64 0) := (qai HX.out.x.l 0).trans rfl; have hfc := qaj HX.out.x.c 0; have hfs := qaj HX.out.x.s 0; have hfl := qaj HX.out.x.l 0
        go_wp2_with (go_at_call 65; refine (qhx _ _ _ _).mono ?_; rintro e w' ⟨rfl, ⟨nd, rfl⟩⟩)
        have hXf := (HX.out.x.keep (qad (Below.refl _ _) nd)).again; refine bodyPost_ret (results40 _ _ _ _ _ (.slice none 0 0) 0 0 rfl rfl rfl hXf.c hXf.s hXf.l) rfl ?_
        exact ⟨_, rfl, Kd.V_nil _ _ _ _ _, hXf.below⟩
end Go.Proofs.Ytmhomdohhihlcaa.P
namespace Go.Proofs.Ytmhomdohhihlcaa.P
open Go.RowKit Go.Shelf Go.Proofs.YtmhomdohhihlcaaW.PrintWords Go.Proofs.YtmhomdohhihlcaaW.PrintLast Go.Proofs.YtmhomdohhihlcaaW.PrintMore
attribute [local go_sem] Oper.semAt_some
set_option maxHeartbeats 4000000 in
set_option maxRecDepth 100000 in
theorem qnj (n : Nat) (R : Nat) (rb B : Nat) (w : World) (hR1 : 1 ≤ R) (hR3 : R ≤ 3) (hB : B ≤ rb) (hr : w.heap[rb]? = some (.cells #[.int .i64 R] 3 (0, 0))) :
  qkh n Try.prog 95 #[.pointer (some ⟨rb, 0, none⟩)] B (qf4 (R - 1) 100 []) w := by
 intro l J W hW hJ0 hJ hY h0
 have hmix : Try.prog.follows .mixedOrders = true := by kernel_rfl
 have hrW : W.heap[rb]? = some (.cells #[.int .i64 R] 3 (0, 0)) := (hW.block rb (qaN hr)).trans hr
 have hrlt : rb < W.heap.size := qaN hrW
 obtain ⟨Wb, hWb⟩ : ∃ Wb, (W.alloc (.cells #[.func (.yield l) #[] #[]] 147)).alloc (.cells #[.nilFunc] 87) = Wb := ⟨_, rfl⟩
 have hby : Wb.heap[W.heap.size]? = some (.cells #[.func (.yield l) #[] #[]] 147 (0, 0)) := by
  rw [← hWb]; exact (Below.heap_alloc _ _ _ (by simp)).trans (World.alloc_heap_new W _)
 have hbf : Wb.heap[W.heap.size + 1]? = some (.cells #[.nilFunc] 87 (0, 0)) := by
  rw [← hWb]; have := World.alloc_heap_new (W.alloc (.cells #[.func (.yield l) #[] #[]] 147)) (.cells #[.nilFunc] 87); rwa [World.size_alloc] at this
 have hbr : Wb.heap[rb]? = some (.cells #[.int .i64 R] 3 (0, 0)) := by
  rw [← hWb]; exact (Below.heap_alloc _ _ _ (by simp; omega)).trans ((Below.heap_alloc _ _ _ hrlt).trans hrW)
 have hsz : Wb.heap.size = W.heap.size + 2 := by rw [← hWb]; simp
 have hcf := (qai hbf 0).trans (show _ = some Value.nilFunc from rfl)
 have hff := qaj hbf 0
 obtain ⟨Wf, hWf⟩ : ∃ Wf, Wb.setCell ⟨W.heap.size + 1, 0, none⟩ (.func (.func 96) #[] #[.pointer (some ⟨rb, 0, none⟩), .pointer (some ⟨W.heap.size, 0, none⟩), .pointer (some ⟨W.heap.size + 1, 0, none⟩)]) = Wf := ⟨_, rfl⟩
 have hfy : Wf.heap[W.heap.size]? = some (.cells #[.func (.yield l) #[] #[]] 147 (0, 0)) := by
  rw [← hWf]; exact qau hby (p := ⟨W.heap.size + 1, 0, none⟩) (by simp) _
 have hff2 : Wf.heap[W.heap.size + 1]? = some (.cells #[.func (.func 96) #[] #[.pointer (some ⟨rb, 0, none⟩), .pointer (some ⟨W.heap.size, 0, none⟩), .pointer (some ⟨W.heap.size + 1, 0, none⟩)]] 87 (0, 0)) := by
  rw [← hWf]; exact qaH hbf 0 _ rfl
 have hfr : Wf.heap[rb]? = some (.cells #[.int .i64 R] 3 (0, 0)) := by
  rw [← hWf]; exact qau hbr (p := ⟨W.heap.size + 1, 0, none⟩) (by simp; omega) _
 have hszf : Wf.heap.size = W.heap.size + 2 := by rw [← hWf]; simpa using hsz
 have hgf : W.grownBy Wf (some (W.heap.size + 1)) := by
  rw [← hWf, ← hWb]
  exact ⟨rfl, rfl, rfl, by simp; omega, fun k hk _ => by
   refine (Below.heap_setCell _ _ _ k (by simp; omega)).trans ((Below.heap_alloc _ _ _ (by simp; omega)).trans (Below.heap_alloc _ _ _ hk))⟩
 have hJf : J [] Wf := hJ0 W Wf _ h0 hgf (fun r e => by cases e; omega)
 have hcell := (qai hff2 0).trans (show _ = some _ from rfl)
 have hcall := qli (m := n - 1) (qrT n l R rb W.heap.size (W.heap.size + 1) B (qf4 (R - 1) 100 []) J hJ (fun pre v x W1 hj hp hr => qln (hY pre v x W1 hj hp hr)) (R - 1) 100 [] (.slice none 0 0) [] Wf (by omega) (by omega) (by simp; omega) hR3 (by omega) (Kd.R_nil _ _ _ _ _)
  ⟨hfr, hfy, hff2, hB, by omega, by omega⟩ hJf (List.prefix_refl _))
 have H1 := qaa.mk hfy
 have H2 := qaa.mk hff2
 have H3 := qaa.mk hfr
 clear hfy hff2 hfr hbr hby hrW hJf hgf
 refine callsIn_of_wp Try.func95 rfl trivial ?_ rfl
 simp only [Try.ntmps95, List.size_toArray, List.length_cons, List.length_nil, Nat.reduceAdd, Nat.reduceSub, Array.replicate_succ, Array.replicate_zero, List.push_toArray, List.append_toArray, List.nil_append, List.cons_append]
 gi_wp2_with (refine ⟨trivial, fun e => by simp [Fence.wide] at e, hcall.mono ?_⟩; rintro e W' ⟨rfl, hJ', hk'⟩)
 go_end0
 exact ⟨⟨_, rfl⟩, hJ'⟩
end Go.Proofs.Ytmhomdohhihlcaa.P
namespace Go.Proofs.Ytmhomdohhihlcaa.P
open Go.RowKit Go.Proofs.YtmhomdohhihlcaaW.PrintWords Go.Proofs.YtmhomdohhihlcaaW.PrintLast Go.Proofs.YtmhomdohhihlcaaW.PrintMore
attribute [local go_sem] qb2 qb4 qcg qch qbQ qbR qb3 qb5
mutual
def qa0.j0 : Nat → List (S25) → Bool → Option (Bool)
 | 0, _, _ => none
 | k + 1, x0, x5 => qa0.l0 k x5 x0 (x0.length : Int) 0
def qa0.l0 : Nat → Bool → List (S25) → Int → Int → Option (Bool)
 | 0, _, _, _, _ => none
 | k + 1, x5, x16, x17, x18 => if x18 < x17 then (if 0 ≤ x18 then (if x18 < (x16.length : Int) then (if x5 = true then ((qdt.f ((qbG x16 x18).f0) ((qbG x16 x18).f1) 100).bind fun t131 => (qa0.l0 k t131 x16 x17 (wrap64 (x18 + 1)))) else (qa0.l0 k false x16 x17 (wrap64 (x18 + 1)))) else (none)) else (none)) else (some x5)
end
def qa0.f (k : Nat) (l0 : List (S25)) (a1 : Int) : Option (Bool) := (qaD.f a1 1 6).bind fun t128 => (if t128 = true then (qa0.j0 k l0 ((l0.length : Int) == a1)) else (qa0.j0 k l0 false))
theorem qa0.mono_l : ∀ k, (∀ y0 y1, LeO (qa0.j0 k y0 y1) (qa0.j0 (k + 1) y0 y1)) ∧ (∀ y0 y1 y2 y3, LeO (qa0.l0 k y0 y1 y2 y3) (qa0.l0 (k + 1) y0 y1 y2 y3))
 | 0 => ⟨fun _ _ r h => by simp [qa0.j0] at h, fun _ _ _ _ r h => by simp [qa0.l0] at h⟩
 | k + 1 => by
  obtain ⟨ih0, ih1⟩ := qa0.mono_l k
  refine ⟨?_, ?_⟩
  ·
   intro y0 y1
   unfold qa0.j0
   repeat' first
   | (with_reducible exact ih0 _ _)
   | (with_reducible exact ih1 _ _ _ _)
   | (with_reducible exact LeO.refl _)
   | (with_reducible exact LeO.none _)
   | (with_reducible refine LeO.ite ?_ ?_)
   | (with_reducible refine LeO.bind ?_ (fun _ => ?_))
   | exact ih0 _ _
   | exact ih1 _ _ _ _
   | exact LeO.none _
   | refine LeO.ite ?_ ?_
   | refine LeO.bind ?_ (fun _ => ?_)
  intro y0 y1 y2 y3
  unfold qa0.l0
  repeat' first
  | (with_reducible exact ih0 _ _)
  | (with_reducible exact ih1 _ _ _ _)
  | (with_reducible exact LeO.refl _)
  | (with_reducible exact LeO.none _)
  | (with_reducible refine LeO.ite ?_ ?_)
  | (with_reducible refine LeO.bind ?_ (fun _ => ?_))
  | exact ih0 _ _
  | exact ih1 _ _ _ _
  | exact LeO.none _
  | refine LeO.ite ?_ ?_
  | refine LeO.bind ?_ (fun _ => ?_)
theorem qa0.mono : ∀ a0 a1 k, LeO (qa0.f k a0 a1) (qa0.f (k + 1) a0 a1) := by
 intro a0 a1 k
 obtain ⟨ih0, ih1⟩ := qa0.mono_l k
 unfold qa0.f
 repeat' first
   | (with_reducible exact ih0 _ _)
   | (with_reducible exact ih1 _ _ _ _)
   | (with_reducible exact LeO.refl _)
   | (with_reducible exact LeO.none _)
   | (with_reducible refine LeO.ite ?_ ?_)
   | (with_reducible refine LeO.bind ?_ (fun _ => ?_))
   | exact ih0 _ _
   | exact ih1 _ _ _ _
   | exact LeO.none _
   | refine LeO.ite ?_ ?_
   | refine LeO.bind ?_ (fun _ => ?_)
set_option maxHeartbeats 8000000 in
set_option maxRecDepth 100000 in
theorem qa0.calls (k : Nat) (A0 : Option Addr) (c0 : Nat) (l0 : List (S25)) (a1 : Int) (r : Bool) (w : World) (hr0 : Kd.C k25 w A0 l0.length l0) (hc0 : l0.length ≤ c0) (h : qa0.f k l0 a1 = some r) :
  Calls Try.prog 67 #[.slice A0 l0.length c0, .int .i64 a1] w fun e w' => e = .returned (.bool r) ∧ Below w.heap.size w w' := by
 have hu25 := Try.underlying25
 have HR0 := qaa.mk hr0
 have HC0 := qaa.mk hc0
 clear hr0 hc0
 have HB := qaa.mk (Below.refl w.heap.size w)
 have H : ((qaD.f a1 1 6).bind fun t128 => (if t128 = true then (qa0.j0 k l0 ((l0.length : Int) == a1)) else (qa0.j0 k l0 false))) = some r := h
 clear h
 have HC3 := qaa.mk H
 clear H
 go_enter Try.func67, Try.ntmps67
 go_upto_region 1 with (fail)
 go_cut [5] (fun v5 wc => ∃ (kq : Nat) (x5_2 : Bool), v5 = .bool x5_2 ∧ qaa (qa0.j0 kq l0 x5_2 = some r) ∧ qaa (kq ≤ k) ∧ qaa (Below w.heap.size w wc))
 case first =>
  have H := HC3.out
  clear HC3
  replace H := Option.bind_eq_some_iff.mp H
  obtain ⟨t128, A40, H⟩ := H
  replace H : (if t128 = true then (qa0.j0 k l0 ((l0.length : Int) == a1)) else (qa0.j0 k l0 false)) = some r := H
  have A4 := qaa.mk A40
  clear A40
  by_cases c5 : t128 = true
  ·
   subst c5
   have H1 : (qa0.j0 k l0 ((l0.length : Int) == a1)) = some r := by rw [if_pos rfl] at H; exact H
   clear H
   have H := H1
   clear H1
   have H' := qaa.mk H
   clear H
   go_wp2_with (first | ((with_reducible refine qaT (f := 65) rfl ?_); refine qbs (some 9) rfl rfl Try.func65 (by kernel_rfl) rfl #[.int .i64 a1, .int .i64 1, .int .i64 6] rfl (by (try simp only [List.map_toArray, List.map_cons, List.map_nil]); first | done | rfl | (simp only [List.length_drop, List.length_take]; rfl)) ?_; (with_reducible refine (qaD.calls a1 1 6 true _ A4.out).mono ?_); rintro e w' ⟨rfl, ⟨nd, rfl⟩⟩; refine ⟨_, rfl, ?_⟩))
   go_meet
   case rel => exact ⟨_, (((l0.length : Int) == a1)), (by first | rfl | (simp; done) | (simp [*]; done)), H', ⟨by first | omega | exact Nat.le_refl _⟩, ⟨by repeat (first | (with_reducible first | exact HB.out | apply qag | apply qad | apply qah) | exact HB.out)⟩⟩
  replace c5 := Bool.eq_false_iff.mpr c5
  subst c5
  have H1 : (qa0.j0 k l0 false) = some r := by rw [if_neg (show ¬ (false = true) by decide)] at H; exact H
  clear H
  have H := H1
  clear H1
  have H' := qaa.mk H
  clear H
  go_wp2_with (first | ((with_reducible refine qaT (f := 65) rfl ?_); refine qbs (some 9) rfl rfl Try.func65 (by kernel_rfl) rfl #[.int .i64 a1, .int .i64 1, .int .i64 6] rfl (by (try simp only [List.map_toArray, List.map_cons, List.map_nil]); first | done | rfl | (simp only [List.length_drop, List.length_take]; rfl)) ?_; (with_reducible refine (qaD.calls a1 1 6 false _ A4.out).mono ?_); rintro e w' ⟨rfl, ⟨nd, rfl⟩⟩; refine ⟨_, rfl, ?_⟩))
  go_meet
  case rel => exact ⟨_, (false), (by first | rfl | (simp; done) | (simp [*]; done)), H', ⟨by first | omega | exact Nat.le_refl _⟩, ⟨by repeat (first | (with_reducible first | exact HB.out | apply qag | apply qad | apply qah) | exact HB.out)⟩⟩
 clear HC3
 try clear p2
 try clear c5
 obtain ⟨kq, x5_2, rfl, HA, HJ2, HB⟩ := hcut
 cases kq with
 | zero => exact absurd HA.out (by simp [qa0.j0])
 | succ kj2 =>
  have H := HA.out
  clear HA
  simp only [qa0.j0] at H
  have H' := qaa.mk H
  clear H
  go_wp2
  go_loopg [5, 18] kj2 (fun kq v5 v18 w' => ∃ (x5_2 : Bool) (qcV : Int), v5 = .bool x5_2 ∧ v18 = .int .i64 qcV ∧ qaa (qa0.l0 kq x5_2 l0 (l0.length : Int) qcV = some r) ∧ qaa (kq ≤ kj2) ∧ qaa (Below w.heap.size w w'))
  case atStart => exact ⟨(x5_2), (0), (by first | rfl | (simp; done) | (simp [*]; done)), (by first | rfl | (simp; done) | (simp [*]; done)), H', ⟨Nat.le_refl _⟩, ⟨by repeat (first | (with_reducible first | exact HB.out | apply qag | apply qad | apply qah) | exact HB.out)⟩⟩
  clear H'
  try clear p2
  try clear c5
  try clear p2
  obtain ⟨x5_2, qcV, rfl, rfl, HA, HK2, HB⟩ := hrel
  cases gk with
  | zero => exact absurd HA.out (by simp [qa0.l0])
  | succ k2 =>
   have H := HA.out
   clear HA
   simp only [qa0.l0] at H
   by_cases c6 : qcV < (l0.length : Int)
   ·
    rw [if_pos c6] at H; have c6b0 : decide (qcV < (l0.length : Int)) = true := decide_eq_true c6; clear c6
    by_cases c7 : 0 ≤ qcV
    ·
     rw [if_pos c7] at H; have c7b0 : decide (0 ≤ qcV) = true := decide_eq_true c7; clear c7
     by_cases c8 : qcV < (l0.length : Int)
     ·
      rw [if_pos c8] at H; have c8b0 : decide (qcV < (l0.length : Int)) = true := decide_eq_true c8; clear c8
      by_cases c9 : x5_2 = true
      ·
       subst c9
       have H1 : ((qdt.f ((qbG l0 qcV).f0) ((qbG l0 qcV).f1) 100).bind fun t131 => (qa0.l0 k2 t131 l0 (l0.length : Int) (wrap64 (qcV + 1)))) = some r := by rw [if_pos rfl] at H; exact H
       clear H; have H := H1; clear H1; replace H := Option.bind_eq_some_iff.mp H; obtain ⟨t131, A100, H⟩ := H; replace H : (qa0.l0 k2 t131 l0 (l0.length : Int) (wrap64 (qcV + 1))) = some r := H; have A10 := qaa.mk A100; clear A100; have H' := qaa.mk H; clear H; have p129 : 0 ≤ (qcV : Int) := of_decide_eq_true (by first | (with_reducible assumption) | assumption); have q129 : qcV < (l0.length : Int) := of_decide_eq_true (by first | (with_reducible assumption) | assumption); obtain ⟨quf, e129, qhL, qhM⟩ := qhC HR0.out qcV p129 q129; cases e129; replace qhL := (HB.out.cell (World.block_lt_of_cell? w _ qhL)).trans qhL; replace qhM := (HB.out.cell (World.block_lt_of_cell? w _ qhM)).trans qhM; replace p129 := eq_true p129; replace q129 := eq_true q129
       go_wp2_with (first | ((with_reducible refine qa1 (N := 7) rfl ?_); (try (refine qdF (by rfl) ?_; dsimp only)); refine qbq ?hg (N := 7) ?hd (cs := #[.int .i64 0, .int .i64 0]) (t := 25) ?hr ?_; (case hd => rfl); (case hg => rfl); (case hr => first | (go_simp; done) | (go_simp; rfl)); intro qh5 hg w11 hbox hb; have n0_ := qaa.mk (qaA (by repeat (first | (with_reducible first | exact HB.out | apply qag | apply qad | apply qah) | exact HB.out)) hb); have n1_ := qaa.mk (hbox); have n2_ := qaa.mk ((by rw [hg]; exact (qav (by repeat (first | (with_reducible first | exact HB.out | apply qag | apply qad | apply qah) | exact HB.out))) : w.heap.size ≤ qh5)); have n3_ := qaa.mk ((by rw [hg]; exact (qav (by repeat (first | (with_reducible first | exact HB.out | apply qag | apply qad | apply qah) | exact HB.out))) : w.heap.size ≤ qh5)); clear HB; have HB := n0_; have qgL := n1_; have qt2 := n2_; have qnt := n3_; clear n0_ n1_ n2_ n3_; clear hb hbox hg; have qjc : w11.cell? ⟨qh5, 0, none⟩ = some (.int .i64 0) := (qai qgL.out 0).trans rfl; have qjd : w11.cell? ⟨qh5, 1, none⟩ = some (.int .i64 0) := (qai qgL.out 1).trans rfl; have qjo := qaj qgL.out 0; have qjp := qaj qgL.out 1) | (go_at_call 66; (with_reducible refine (qdt.calls ((qbG l0 qcV).f0) ((qbG l0 qcV).f1) 100 t131 _ A10.out).mono ?_); rintro e w13 ⟨rfl, hb⟩; have n0_ := qaa.mk (qar (g := qh5) (o := .cells #[.int .i64 ((qbG l0 qcV).f0), .int .i64 ((qbG l0 qcV).f1)] 25 (0, 0)) (by (with_reducible repeat (first | refine qac ?_ _ | refine qae ?_ | refine qab ?_ _)); refine qaH (cs := #[.int .i64 ((qbG l0 qcV).f0), .int .i64 0]) ?_ 1 _ rfl; (with_reducible repeat (first | refine qac ?_ _ | refine qae ?_ | refine qab ?_ _)); refine qaH (cs := #[.int .i64 0, .int .i64 0]) ?_ 0 _ rfl; (with_reducible repeat (first | refine qac ?_ _ | refine qae ?_ | refine qab ?_ _)); exact qgL.out) hb); have n1_ := qaa.mk (qaA (by repeat (first | (with_reducible first | exact HB.out | apply qag | apply qad | apply qah | refine qaf ?_ qnt.out) | exact HB.out)) hb); clear qgL; clear HB; have qgL := n0_; have HB := n1_; clear n0_ n1_; (try clear hb); (try clear hb2); (try clear hk); (try clear hi)))
       go_roundg k2
       case measure => have := HJ2.out; have := HK2.out; omega
       case rel => exact ⟨(t131), (wrap64 (qcV + 1)), (by first | rfl | (simp; done) | (simp [*]; done)), (by first | rfl | (simp; done) | (simp [*]; done)), H', ⟨by have := HJ2.out; have := HK2.out; omega⟩, ⟨by repeat (first | (with_reducible first | exact HB.out | apply qag | apply qad | apply qah | refine qaf ?_ qnt.out) | exact HB.out)⟩⟩
      replace c9 := Bool.eq_false_iff.mpr c9; subst c9
      have H1 : (qa0.l0 k2 false l0 (l0.length : Int) (wrap64 (qcV + 1))) = some r := by rw [if_neg (show ¬ (false = true) by decide)] at H; exact H
      clear H; have H := H1; clear H1; have H' := qaa.mk H; clear H; have p129 : 0 ≤ (qcV : Int) := of_decide_eq_true (by first | (with_reducible assumption) | assumption); have q129 : qcV < (l0.length : Int) := of_decide_eq_true (by first | (with_reducible assumption) | assumption); obtain ⟨quf, e129, qhL, qhM⟩ := qhC HR0.out qcV p129 q129; cases e129; replace qhL := (HB.out.cell (World.block_lt_of_cell? w _ qhL)).trans qhL; replace qhM := (HB.out.cell (World.block_lt_of_cell? w _ qhM)).trans qhM; replace p129 := eq_true p129; replace q129 := eq_true q129
      go_wp2_with (first | ((with_reducible refine qa1 (N := 7) rfl ?_); (try (refine qdF (by rfl) ?_; dsimp only)); refine qbq ?hg (N := 7) ?hd (cs := #[.int .i64 0, .int .i64 0]) (t := 25) ?hr ?_; (case hd => rfl); (case hg => rfl); (case hr => first | (go_simp; done) | (go_simp; rfl)); intro qh5 hg w14 hbox hb; have n0_ := qaa.mk (qaA (by repeat (first | (with_reducible first | exact HB.out | apply qag | apply qad | apply qah) | exact HB.out)) hb); have n1_ := qaa.mk (hbox); have n2_ := qaa.mk ((by rw [hg]; exact (qav (by repeat (first | (with_reducible first | exact HB.out | apply qag | apply qad | apply qah) | exact HB.out))) : w.heap.size ≤ qh5)); have n3_ := qaa.mk ((by rw [hg]; exact (qav (by repeat (first | (with_reducible first | exact HB.out | apply qag | apply qad | apply qah) | exact HB.out))) : w.heap.size ≤ qh5)); clear HB; have HB := n0_; have qgL := n1_; have qt2 := n2_; have qnt := n3_; clear n0_ n1_ n2_ n3_; clear hb hbox hg; have qgq : w14.cell? ⟨qh5, 0, none⟩ = some (.int .i64 0) := (qai qgL.out 0).trans rfl; have qgr : w14.cell? ⟨qh5, 1, none⟩ = some (.int .i64 0) := (qai qgL.out 1).trans rfl; have qgt := qaj qgL.out 0; have qgu := qaj qgL.out 1))
      go_roundg k2
      case measure => have := HJ2.out; have := HK2.out; omega
      case rel => exact ⟨(false), (wrap64 (qcV + 1)), (by first | rfl | (simp; done) | (simp [*]; done)), (by first | rfl | (simp; done) | (simp [*]; done)), H', ⟨by have := HJ2.out; have := HK2.out; omega⟩, ⟨by repeat (first | (with_reducible first | exact HB.out | apply qag | apply qad | apply qah | refine qaf ?_ qnt.out) | exact HB.out)⟩⟩
     rw [if_neg c8] at H
     exact absurd H (by simp)
    rw [if_neg c7] at H
    exact absurd H (by simp)
   rw [if_neg c6] at H
   have c6b0 : decide (qcV < (l0.length : Int)) = false := decide_eq_false c6
   clear c6
   obtain rfl := Option.some.inj H
   go_wp2
   go_ret
   exact ⟨by first | rfl | (simp [qaO, qaP] <;> rfl) | (simp [*, qaO, qaP] <;> rfl), by repeat (first | (with_reducible first | exact HB.out | apply qag | apply qad | apply qah) | exact HB.out)⟩
end Go.Proofs.Ytmhomdohhihlcaa.P
namespace Go.Proofs.Ytmhomdohhihlcaa.P
open Go.RowKit Go.Proofs.YtmhomdohhihlcaaW.PrintWords Go.Proofs.YtmhomdohhihlcaaW.PrintLast Go.Proofs.YtmhomdohhihlcaaW.PrintMore
attribute [local go_sem] qb2 qb4 qcg qch qbQ qbR qb3 qb5
def qbh.l0 : Nat → Int → List Int → Int → Int → Option (Int)
 | 0, _, _, _, _ => none
 | k + 1, x3, x6, x7, x8 => if x8 < x7 then (if 0 ≤ x8 then (if x8 < (x6.length : Int) then (qbh.l0 k (wrap64 (x3 + (rd x6 x8))) x6 x7 (wrap64 (x8 + 1))) else (none)) else (none)) else (some x3)
def qbh.f (k : Nat) (l0 : List Int) : Option (Int) := qbh.l0 k 0 l0 (l0.length : Int) 0
theorem qbh.mono_l : ∀ k, (∀ y0 y1 y2 y3, LeO (qbh.l0 k y0 y1 y2 y3) (qbh.l0 (k + 1) y0 y1 y2 y3))
 | 0 => fun _ _ _ _ r h => by simp [qbh.l0] at h
 | k + 1 => by
  have ih0 := qbh.mono_l k
  intro y0 y1 y2 y3
  unfold qbh.l0
  repeat' first
  | (with_reducible exact ih0 _ _ _ _)
  | (with_reducible exact LeO.refl _)
  | (with_reducible exact LeO.none _)
  | (with_reducible refine LeO.ite ?_ ?_)
  | (with_reducible refine LeO.bind ?_ (fun _ => ?_))
  | exact ih0 _ _ _ _
  | exact LeO.none _
  | refine LeO.ite ?_ ?_
  | refine LeO.bind ?_ (fun _ => ?_)
theorem qbh.mono : ∀ a0 k, LeO (qbh.f k a0) (qbh.f (k + 1) a0) := by
 intro a0 k
 have ih0 := qbh.mono_l k
 unfold qbh.f
 repeat' first
   | (with_reducible exact ih0 _ _ _ _)
   | (with_reducible exact LeO.refl _)
   | (with_reducible exact LeO.none _)
   | (with_reducible refine LeO.ite ?_ ?_)
   | (with_reducible refine LeO.bind ?_ (fun _ => ?_))
   | exact ih0 _ _ _ _
   | exact LeO.none _
   | refine LeO.ite ?_ ?_
   | refine LeO.bind ?_ (fun _ => ?_)
set_option maxHeartbeats 8000000 in
set_option maxRecDepth 100000 in
theorem qbh.calls (k : Nat) (A0 : Option Addr) (c0 : Nat) (l0 : List Int) (r : Int) (w : World) (hr0 : Kd.C (Kd.int .i64) w A0 l0.length l0) (hc0 : l0.length ≤ c0) (h : qbh.f k l0 = some r) :
  Calls Try.prog 97 #[.slice A0 l0.length c0] w fun e w' => e = .returned (.int .i64 r) ∧ qbF w w' := by
 have HR0 := qaa.mk hr0
 have HC0 := qaa.mk hc0
 clear hr0 hc0
 have H : (qbh.l0 k 0 l0 (l0.length : Int) 0) = some r := h
 clear h
 have H' := qaa.mk H
 clear H
 go_enter Try.func97, Try.ntmps97
 go_wp2
 go_loopg [3, 8] k (fun kq v3 v8 w' => ∃ (x3_1 : Int) (x8_1 : Int), v3 = .int .i64 x3_1 ∧ v8 = .int .i64 x8_1 ∧ qaa (qbh.l0 kq x3_1 l0 (l0.length : Int) x8_1 = some r) ∧ qaa (kq ≤ k) ∧ qbF w w')
 case atStart => exact ⟨(0), (0), (by first | rfl | (simp; done) | (simp [*]; done)), (by first | rfl | (simp; done) | (simp [*]; done)), H', ⟨Nat.le_refl _⟩, by repeat (first | exact qbF.refl _ | apply qbF.step)⟩
 clear H'
 obtain ⟨x3_1, x8_1, rfl, rfl, HA, HK1, ⟨m1, rfl⟩⟩ := hrel
 cases gk with
 | zero => exact absurd HA.out (by simp [qbh.l0])
 | succ k1 =>
  have H := HA.out
  clear HA
  simp only [qbh.l0] at H
  by_cases c2 : x8_1 < (l0.length : Int)
  ·
   rw [if_pos c2] at H
   have c2b0 : decide (x8_1 < (l0.length : Int)) = true := decide_eq_true c2
   clear c2
   by_cases c3 : 0 ≤ x8_1
   ·
    rw [if_pos c3] at H; have c3b0 : decide (0 ≤ x8_1) = true := decide_eq_true c3; clear c3
    by_cases c4 : x8_1 < (l0.length : Int)
    ·
     rw [if_pos c4] at H; have c4b0 : decide (x8_1 < (l0.length : Int)) = true := decide_eq_true c4; clear c4; have H' := qaa.mk H; clear H; have p132 : 0 ≤ (x8_1 : Int) := of_decide_eq_true (by first | (with_reducible assumption) | assumption); have q132 : x8_1 < (l0.length : Int) := of_decide_eq_true (by first | (with_reducible assumption) | assumption); obtain ⟨qCI, e132, qBQ⟩ := Kd.at_int HR0.out x8_1 p132 q132; cases e132; replace p132 := eq_true p132; replace q132 := eq_true q132
     go_wp2
     go_roundg k1
     case measure => have := HK1.out; omega
     case rel => exact ⟨(wrap64 (x3_1 + (rd l0 x8_1))), (wrap64 (x8_1 + 1)), (by first | rfl | (simp; done) | (simp [*]; done)), (by first | rfl | (simp; done) | (simp [*]; done)), H', ⟨by have := HK1.out; omega⟩, by repeat (first | exact qbF.refl _ | apply qbF.step)⟩
    rw [if_neg c4] at H
    exact absurd H (by simp)
   rw [if_neg c3] at H
   exact absurd H (by simp)
  rw [if_neg c2] at H
  have c2b0 : decide (x8_1 < (l0.length : Int)) = false := decide_eq_false c2
  clear c2
  obtain rfl := Option.some.inj H
  go_wp2
  go_ret
  exact ⟨by first | rfl | (simp; done) | (simp [*]; done), by repeat (first | exact qbF.refl _ | apply qbF.step)⟩
end Go.Proofs.Ytmhomdohhihlcaa.P
namespace Go.Proofs.Ytmhomdohhihlcaa.P
open Go.RowKit Go.Proofs.YtmhomdohhihlcaaW.PrintWords Go.Proofs.YtmhomdohhihlcaaW.PrintLast Go.Proofs.YtmhomdohhihlcaaW.PrintMore
def qe4.f (a b : Int) : Option Int := some a
def qeP.f (a b : Int) : Option Int := some b
theorem qe4.calls (a b r : Int) (w : World) (h : qe4.f a b = some r) :
  Calls Try.prog 68 #[.agg #[.int .i64 a, .int .i64 b]] w fun e w' => e = .returned (.int .i64 r) ∧ Below w.heap.size w w' := by
 unfold qe4.f at h
 injection h with h
 subst h
 have hu25 := Try.underlying25
 go_enter Try.func68, Try.ntmps68
 go_wp2
 go_ret
 exact ⟨rfl, (Below.refl _ w).alloc (Nat.le_refl _) _⟩
theorem qeP.calls (a b r : Int) (w : World) (h : qeP.f a b = some r) :
  Calls Try.prog 69 #[.agg #[.int .i64 a, .int .i64 b]] w fun e w' => e = .returned (.int .i64 r) ∧ Below w.heap.size w w' := by
 unfold qeP.f at h
 injection h with h
 subst h
 have hu25 := Try.underlying25
 go_enter Try.func69, Try.ntmps69
 go_wp2
 go_ret
 exact ⟨rfl, (Below.refl _ w).alloc (Nat.le_refl _) _⟩
end Go.Proofs.Ytmhomdohhihlcaa.P
namespace Go.Proofs.Ytmhomdohhihlcaa.P
open Go.RowKit Go.Proofs.YtmhomdohhihlcaaW.PrintWords Go.Proofs.YtmhomdohhihlcaaW.PrintLast Go.Proofs.YtmhomdohhihlcaaW.PrintMore
attribute [local go_sem] qb2 qb4 qcg qch qbQ qbR qb3 qb5
def qbb.l0 : Nat → List (List (S25)) → Int → List Int → List Int → Int → Int → Option (Int)
 | 0, _, _, _, _, _, _ => none
 | k + 1, x2, x3, x9, x12, x13, x14 => if x14 < x13 then (if 0 ≤ x14 then (if x14 < (x12.length : Int) then (if x14 < (x2.length : Int) then (if 0 ≤ x3 then (if x3 < ((qdp x2 x14).length : Int) then ((qe4.f ((qbG (qdp x2 x14) x3).f0) ((qbG (qdp x2 x14) x3).f1)).bind fun t137 => (if x9.length < 17592186044416 then (qbb.l0 k x2 x3 (x9 ++ [wrap64 ((rd x12 x14) * t137)]) x12 x13 (wrap64 (x14 + 1))) else (none))) else (none)) else (none)) else (none)) else (none)) else (none)) else ((qbh.f k x9).bind fun t141 => (some t141))
def qbb.f (k : Nat) (a0_0 : Int) (l1 : List Int) (l2 : List (List (S25))) (a3 : Int) : Option (Int) := qbb.l0 k l2 a3 ([] : List Int) l1 (l1.length : Int) 0
theorem qbb.mono_l : ∀ k, (∀ y0 y1 y2 y3 y4 y5, LeO (qbb.l0 k y0 y1 y2 y3 y4 y5) (qbb.l0 (k + 1) y0 y1 y2 y3 y4 y5))
 | 0 => fun _ _ _ _ _ _ r h => by simp [qbb.l0] at h
 | k + 1 => by
  have ih0 := qbb.mono_l k
  intro y0 y1 y2 y3 y4 y5
  unfold qbb.l0
  repeat' first
  | (with_reducible exact ih0 _ _ _ _ _ _)
  | (with_reducible exact qbh.mono _ _)
  | (with_reducible exact LeO.refl _)
  | (with_reducible exact LeO.none _)
  | (with_reducible refine LeO.ite ?_ ?_)
  | (with_reducible refine LeO.bind ?_ (fun _ => ?_))
  | exact ih0 _ _ _ _ _ _
  | exact qbh.mono _ _
  | exact LeO.none _
  | refine LeO.ite ?_ ?_
  | refine LeO.bind ?_ (fun _ => ?_)
theorem qbb.mono : ∀ a0 a1 a2 a3 k, LeO (qbb.f k a0 a1 a2 a3) (qbb.f (k + 1) a0 a1 a2 a3) := by
 intro a0 a1 a2 a3 k
 have ih0 := qbb.mono_l k
 unfold qbb.f
 repeat' first
   | (with_reducible exact ih0 _ _ _ _ _ _)
   | (with_reducible exact qbh.mono _ _)
   | (with_reducible exact LeO.refl _)
   | (with_reducible exact LeO.none _)
   | (with_reducible refine LeO.ite ?_ ?_)
   | (with_reducible refine LeO.bind ?_ (fun _ => ?_))
   | exact ih0 _ _ _ _ _ _
   | exact qbh.mono _ _
   | exact LeO.none _
   | refine LeO.ite ?_ ?_
   | refine LeO.bind ?_ (fun _ => ?_)
def qbb.T5 : Bool × List (List Nat × List Nat) := (true, [([], []), ([], []), ([], []), ([2], [2]), ([], []), ([], []), ([4, 5], [4, 5]), ([6], [6]), ([], []), ([7, 8], [7, 8]), ([9], [9]), ([3, 10], [3, 10]), ([1, 11], [1, 11]), ([12], [12]), ([0, 13, 11], [0, 13]), ([14, 14, 0, 1, 2, 3, 4, 5, 6, 7, 8, 9, 10, 11, 12, 13, 14], [0, 14])])
def qbb.B5 : List Nat := [0, 0, 0, 4, 0, 0, 48, 112, 0, 496, 1008, 2044, 4094, 8190, 16383, 32767]
theorem qbb.tab5 : rtab .any (qi4 Try.f71 5) = qbb.T5 := by kernel_rfl
theorem qbb.bits5 : qfh qbb.T5.2 qbb.B5 = true := by kernel_rfl
set_option maxHeartbeats 8000000 in
set_option maxRecDepth 100000 in
theorem qbb.calls (k : Nat) (a0_0 : Int) (A1 : Option Addr) (c1 : Nat) (l1 : List Int) (A2 : Option Addr) (c2 : Nat) (l2 : List (List (S25))) (a3 : Int) (r : Int) (w : World) (hr1 : Kd.C (Kd.int .i64) w A1 l1.length l1) (hc1 : l1.length ≤ c1) (hr2 : Kd.C (Kd.slice 25 k25) w A2 l2.length l2) (hc2 : l2.length ≤ c2) (h : qbb.f k a0_0 l1 l2 a3 = some r) :
  Calls Try.prog 71 #[.agg #[.func (.func 68) #[] #[]], .slice A1 l1.length c1, .slice A2 l2.length c2, .int .i64 a3] w fun e w' => e = .returned (.int .i64 r) ∧ Below w.heap.size w w' := by
 have qvb := Try.underlying104
 have hu25 := Try.underlying25
 have HR1 := qaa.mk hr1
 have HC1 := qaa.mk hc1
 clear hr1 hc1
 have HR2 := qaa.mk hr2
 have HC2 := qaa.mk hc2
 clear hr2 hc2
 have HB := qaa.mk (Below.refl w.heap.size w)
 have H : (qbb.l0 k l2 a3 ([] : List Int) l1 (l1.length : Int) 0) = some r := h
 clear h
 have H' := qaa.mk H
 clear H
 go_enter Try.func71, Try.ntmps71
 go_wp2_with (first | ((with_reducible refine qa1 (N := 4) rfl ?_); refine qbq ?hg (N := 4) ?hd (cs := #[.func (.func 68) #[] #[]]) (t := 104) ?hr ?_; (case hd => rfl); (case hg => rfl); (case hr => first | (go_simp; done) | (go_simp; rfl)); intro qgp hg w5 hbox hb; have n0_ := qaa.mk (qaA (by repeat (first | (with_reducible first | exact HB.out | apply qag | apply qad | apply qah) | exact HB.out)) hb); have n1_ := qaa.mk (hbox); have n2_ := qaa.mk ((by rw [hg]; exact (qav (by repeat (first | (with_reducible first | exact HB.out | apply qag | apply qad | apply qah) | exact HB.out))) : w.heap.size ≤ qgp)); have n3_ := qaa.mk ((by rw [hg]; exact (qav (by repeat (first | (with_reducible first | exact HB.out | apply qag | apply qad | apply qah) | exact HB.out))) : w.heap.size ≤ qgp)); clear HB; have HB := n0_; have qc7 := n1_; have qt3 := n2_; have qgk := n3_; clear n0_ n1_ n2_ n3_; clear hb hbox hg))
 go_loopg [9, 14] k (fun kq v9 v14 w' => ∃ (x9_1 : List Int) (qbI : Int), v14 = .int .i64 qbI ∧ qaa (qbb.l0 kq l2 a3 x9_1 l1 (l1.length : Int) qbI = some r) ∧ qaa (kq ≤ k) ∧ qaa (Kd.R (Kd.int .i64) 3 w' w.heap.size (fun _ => True) v9 x9_1) ∧ qaa (w'.heap[qgp]? = some (.cells #[.func (.func 68) #[] #[]] 104 (0, 0))) ∧ qaa (Below w.heap.size w w'))
 case atStart => exact ⟨(([] : List Int)), (0), (by first | rfl | (simp; done) | (simp [*]; done)), H', ⟨Nat.le_refl _⟩, ⟨by first | exact Kd.R_nil _ _ _ _ _ | exact Kd.N_nil _ _ _ _ _ | exact Kd.V_nil _ _ _ _ _ | exact Kd.Q_nil _ _ _ _ _ | exact Kd.S_nil _ _ _ _ _⟩, ⟨by (with_reducible repeat (first | refine qac ?_ _ | refine qae ?_ | refine qab ?_ _)); exact qc7.out⟩, ⟨by repeat (first | (with_reducible first | exact HB.out | apply qag | apply qad | apply qah | refine qaf ?_ qgk.out) | exact HB.out)⟩⟩
 clear H'
 try clear c1
 try clear c2
 try clear p2
 obtain ⟨x9_1, qbI, rfl, HA, HK1, HO_9, qc7, HB⟩ := hrel
 cases gk with
 | zero => exact absurd HA.out (by simp [qbb.l0])
 | succ k1 =>
  have H := HA.out
  clear HA
  simp only [qbb.l0] at H
  by_cases c6 : qbI < (l1.length : Int)
  ·
   rw [if_pos c6] at H
   have c6b0 : decide (qbI < (l1.length : Int)) = true := decide_eq_true c6
   clear c6
   by_cases c7 : 0 ≤ qbI
   ·
    rw [if_pos c7] at H; have c7b0 : decide (0 ≤ qbI) = true := decide_eq_true c7; clear c7
    by_cases c8 : qbI < (l1.length : Int)
    ·
     rw [if_pos c8] at H; have c8b0 : decide (qbI < (l1.length : Int)) = true := decide_eq_true c8; clear c8
     by_cases c9 : qbI < (l2.length : Int)
     ·
      rw [if_pos c9] at H; have c9b0 : decide (qbI < (l2.length : Int)) = true := decide_eq_true c9; clear c9
      by_cases c10 : 0 ≤ a3
      ·
       rw [if_pos c10] at H; have c10b0 : decide (0 ≤ a3) = true := decide_eq_true c10; clear c10
       by_cases c11 : a3 < ((qdp l2 qbI).length : Int)
       ·
        rw [if_pos c11] at H; have c11b0 : decide (a3 < ((qdp l2 qbI).length : Int)) = true := decide_eq_true c11; clear c11; replace H := Option.bind_eq_some_iff.mp H; obtain ⟨t137, A120, H⟩ := H; replace H : (if x9_1.length < 17592186044416 then (qbb.l0 k1 l2 a3 (x9_1 ++ [wrap64 ((rd l1 qbI) * t137)]) l1 (l1.length : Int) (wrap64 (qbI + 1))) else (none)) = some r := H; have A12 := qaa.mk A120; clear A120
        by_cases c13 : x9_1.length < 17592186044416
        ·
         rw [if_pos c13] at H; have qpm := qaa.mk c13; clear c13; obtain ⟨y138, qhF⟩ : ∃ y_ : List Int, y_ = (x9_1 ++ [wrap64 ((rd l1 qbI) * t137)]) := ⟨_, rfl⟩
         replace H : (qbb.l0 k1 l2 a3 y138 l1 (l1.length : Int) (wrap64 (qbI + 1))) = some r := by first | (rw [qhF]; with_reducible exact H) | (have H2_ := (Option.bind_some _ _).symm.trans H; rw [qhF]; with_reducible exact H2_) | (have H2_ := (Option.bind_some _ _).symm.trans H; with_reducible exact H2_) | with_reducible exact H | (rw [qhF]; exact H) | exact H
         have qpn := qaa.mk qhF; clear qhF; have H' := qaa.mk H; clear H; have p134 : 0 ≤ (qbI : Int) := of_decide_eq_true (by first | (with_reducible assumption) | assumption); have q134 : qbI < (l1.length : Int) := of_decide_eq_true (by first | (with_reducible assumption) | assumption); obtain ⟨qug, e134, qhN⟩ := Kd.at_int HR1.out qbI p134 q134; cases e134; replace qhN := (HB.out.cell (World.block_lt_of_cell? w _ qhN)).trans qhN; replace p134 := eq_true p134; replace q134 := eq_true q134
         try go_wp2
         have n0_ := qaa.mk (Kd.R_drew HO_9.out); have n1_ := qaa.mk (qae qc7.out); have n2_ := qaa.mk (qah HB.out); clear HO_9 qc7 HB; have HO_9 := n0_; have qc7 := n1_; have HB := n2_; clear n0_ n1_ n2_; have p135 : 0 ≤ (qbI : Int) := of_decide_eq_true (by first | (with_reducible assumption) | assumption); have q135 : qbI < (l2.length : Int) := of_decide_eq_true (by first | (with_reducible assumption) | assumption); obtain ⟨qpo, qtv, qnZ, e135, qfF, qjE, qjA⟩ := qpt HR2.out qbI p135 q135; have qdA := qfF; cases e135; replace qfF := (HB.out.cell (World.block_lt_of_cell? w _ qfF)).trans qfF; have qi9 := qaa.mk qjA; have qrJ := qaa.mk qjE; clear qjA qjE; replace p135 := eq_true p135; replace q135 := eq_true q135; have p136 : 0 ≤ (a3 : Int) := of_decide_eq_true (by first | (with_reducible assumption) | assumption); have q136 : a3 < ((qdp l2 qbI).length : Int) := of_decide_eq_true (by first | (with_reducible assumption) | assumption); obtain ⟨qij, e136, qfG, qfH⟩ := qhC qi9.out a3 p136 q136; have qdC := qfH; have qdB := qfG; cases e136; replace qfG := (HB.out.cell (World.block_lt_of_cell? w _ qfG)).trans qfG; replace qfH := (HB.out.cell (World.block_lt_of_cell? w _ qfH)).trans qfH; replace p136 := eq_true p136; replace q136 := eq_true q136; refine qfM (n := 16) (S := fun w' => w'.cell? ⟨qgp, 0, none⟩ = some (.func (.func 68) #[] #[]) ∧ w'.cell? (qpo.add (qbI).toNat) = some (.slice (some qij) (qdp l2 qbI).length qnZ) ∧ w'.cell? (qij.add ((a3).toNat * 2)) = some (.int .i64 ((qbG (qdp l2 qbI) a3).f0)) ∧ w'.cell? ⟨(qij.add ((a3).toNat * 2)).block, (qij.add ((a3).toNat * 2)).off + 1, none⟩ = some (.int .i64 ((qbG (qdp l2 qbI) a3).f1))) (ds := []) (qas 16 0) (by kernel_rfl) rfl rfl ⟨(qai qc7.out 0).trans rfl, ((HB.out.cell (World.block_lt_of_cell? w _ qdA)).trans qdA), ((HB.out.cell (World.block_lt_of_cell? w _ qdB)).trans qdB), ((HB.out.cell (World.block_lt_of_cell? w _ qdC)).trans qdC)⟩ (fun hHeld => ?_); refine qel qbb.tab5 qbb.bits5 (fun HT_ HW_ => ?_)
         generalize wr.drew = w14 at HO_9 qc7 HB qi9 qfF qfG qfH hHeld ⊢
         refine qax 0 (some 19) (qas 16 1) rfl rfl HT_.out (by kernel_rfl) (fun _ _ _ h => h) ⟨.inl ⟨by rfl, fun w' => by go_simp; with_reducible rfl⟩, by simp only [qaq, qam, qap, qao, qan, qaB, qaC]; rfl, ?_⟩; refine qax 1 (some 20) (qas 16 3) rfl rfl HT_.out (by kernel_rfl) (fun _ _ _ h => h) ⟨.inl ⟨by rfl, fun w' => by go_simp; with_reducible rfl⟩, by simp only [qaq, qam, qap, qao, qan, qaB, qaC]; rfl, ?_⟩; refine qax 2 (some 21) (qas 16 7) rfl rfl HT_.out (by kernel_rfl) (fun _ _ _ h => h) ⟨.inl ⟨by rfl, fun w' => by go_simp; with_reducible rfl⟩, by simp only [qaq, qam, qap, qao, qan, qaB, qaC]; rfl, ?_⟩; refine qax 4 (some 23) (qas 16 23) rfl rfl HT_.out (by kernel_rfl) (fun _ _ _ h => h) ⟨.inl ⟨by rfl, fun w' => by go_simp; with_reducible rfl⟩, by simp only [qaq, qam, qap, qao, qan, qaB, qaC]; rfl, ?_⟩; refine qax 5 (some 24) (qas 16 55) rfl rfl HT_.out (by kernel_rfl) (fun _ _ _ h => h) ⟨.inl ⟨by rfl, fun w' => by go_simp; with_reducible rfl⟩, by simp only [qaq, qam, qap, qao, qan, qaB, qaC]; rfl, ?_⟩; refine qax 6 (some 25) (qas 16 119) rfl rfl HT_.out (by kernel_rfl) (fun _ _ _ h => h) ⟨.inl ⟨by rfl, fun w' => by go_simp; with_reducible rfl⟩, by simp only [qaq, qam, qap, qao, qan, qaB, qaC]; rfl, ?_⟩; refine qax 8 (some 27) (qas 16 375) rfl rfl HT_.out (by kernel_rfl) (fun _ _ _ h => h) ⟨.inl ⟨by rfl, fun w' => by go_simp; with_reducible rfl⟩, by simp only [qaq, qam, qap, qao, qan, qaB, qaC]; rfl, ?_⟩; refine qcD 3 (some 22) (qas 16 383) rfl rfl (qcE HT_.out HW_.out (by kernel_rfl)) (fun _ _ _ h => h) hHeld ⟨.inl ⟨by rfl, by rintro w' ⟨s0, s1, s2, s3⟩; go_simp; with_reducible rfl⟩, by simp only [qaq, qam, qap, qao, qan, qaB, qaC]; rfl, ?_⟩; refine qcD 7 (some 26) (qas 16 511) rfl rfl (qcE HT_.out HW_.out (by kernel_rfl)) (fun _ _ _ h => h) hHeld ⟨.inl ⟨by rfl, by rintro w' ⟨s0, s1, s2, s3⟩; go_simp; with_reducible rfl⟩, by simp only [qaq, qam, qap, qao, qan, qaB, qaC]; rfl, ?_⟩; refine qax 9 (some 28) (qas 16 1023) rfl rfl HT_.out (by kernel_rfl) (fun _ _ _ h => h) ⟨.inl ⟨by rfl, fun w' => by go_simp; with_reducible rfl⟩, by simp only [qaq, qam, qap, qao, qan, qaB, qaC]; rfl, ?_⟩; refine qcD 10 (some 29) (qas 16 2047) rfl rfl (qcE HT_.out HW_.out (by kernel_rfl)) (fun _ _ _ h => h) hHeld ⟨.inl ⟨by rfl, by rintro w' ⟨s0, s1, s2, s3⟩; go_simp; with_reducible rfl⟩, by simp only [qaq, qam, qap, qao, qan, qaB, qaC]; rfl, ?_⟩; refine one_ (i := 11) (N := some 30) (qas 16 4095) rfl rfl (qdd HT_.out (by kernel_rfl)) (by decide) (fun K hK => ?_); refine qlD Try.func68 (by kernel_rfl) rfl #[.agg #[.int .i64 ((qbG (qdp l2 qbI) a3).f0), .int .i64 ((qbG (qdp l2 qbI) a3).f1)]] 22 (by rfl) rfl rfl rfl (by (try simp only [List.map_toArray, List.map_cons, List.map_nil]); first | done | rfl | (simp only [List.length_drop, List.length_take]; rfl)) ?_
         with_reducible refine (qe4.calls ((qbG (qdp l2 qbI) a3).f0) ((qbG (qdp l2 qbI) a3).f1) t137 _ A12.out).mono ?_
         rintro e w15 ⟨rfl, hb⟩; refine ⟨_, rfl, ?_⟩; have n0_ := qaa.mk (Kd.R_below (by (with_reducible repeat (first | apply Kd.R_alloc | apply Kd.R_drewN | apply Kd.R_drew)); exact HO_9.out) hb); have n1_ := qaa.mk (qar (g := qgp) (o := .cells #[.func (.func 68) #[] #[]] 104 (0, 0)) (by (with_reducible repeat (first | refine qac ?_ _ | refine qae ?_ | refine qab ?_ _)); exact qc7.out) hb); have n2_ := qaa.mk (qaA (by repeat (first | (with_reducible first | exact HB.out | apply qag | apply qad | apply qah | refine qaf ?_ qgk.out) | exact HB.out)) hb); clear HO_9 qc7 HB; have HO_9 := n0_; have qc7 := n1_; have HB := n2_; clear n0_ n1_ n2_
         (try clear hb)
         (try clear hb2)
         (try clear hk)
         (try clear hi)
         refine hK.out _ _ ⟨(qai qc7.out 0).trans rfl, ((HB.out.cell (World.block_lt_of_cell? w _ qdA)).trans qdA), ((HB.out.cell (World.block_lt_of_cell? w _ qdB)).trans qdB), ((HB.out.cell (World.block_lt_of_cell? w _ qdC)).trans qdC)⟩ (fun hHeld => ?_); clear hK K; refine qcX (a' := ?_) ?_ ?_; rotate_left
         ·
          show Act.put _ (some 30) _ = _
          simp only [qaq, qam, qap, qao, qan, qaB, qaC]; rfl
         refine qax 12 (some 31) (qas 16 8191) rfl rfl HT_.out (by kernel_rfl) (fun _ _ _ h => h) ⟨.inl ⟨by rfl, fun w' => by go_simp; with_reducible rfl⟩, by simp only [qaq, qam, qap, qao, qan, qaB, qaC]; rfl, ?_⟩; refine one_ (i := 13) (N := some 32) (qas 16 16383) rfl rfl (qdd HT_.out (by kernel_rfl)) (by decide) (fun K hK => ?_); refine qor (w1 := ?_) (v := ?_) (by rfl) rfl ?_ ?_
         rotate_left 2
         ·
          go_simp
          constructor
          · rfl
          rfl
         refine hK.out _ _ ⟨(qai (qab qc7.out _) 0).trans rfl, (World.cell?_alloc_lt _ _ _ (World.block_lt_of_cell? _ _ (((HB.out.cell (World.block_lt_of_cell? w _ qdA)).trans qdA)))).trans (((HB.out.cell (World.block_lt_of_cell? w _ qdA)).trans qdA)), (World.cell?_alloc_lt _ _ _ (World.block_lt_of_cell? _ _ (((HB.out.cell (World.block_lt_of_cell? w _ qdB)).trans qdB)))).trans (((HB.out.cell (World.block_lt_of_cell? w _ qdB)).trans qdB)), (World.cell?_alloc_lt _ _ _ (World.block_lt_of_cell? _ _ (((HB.out.cell (World.block_lt_of_cell? w _ qdC)).trans qdC)))).trans (((HB.out.cell (World.block_lt_of_cell? w _ qdC)).trans qdC))⟩ (fun hHeld => ?_); clear hK K; refine qcX (a' := ?_) ?_ ?_; rotate_left
         ·
          show Act.put _ (some 32) _ = _
          simp only [qaq, qam, qap, qao, qan, qaB, qaC]; rfl
         refine one_ (i := 14) (N := some 33) (qas 16 32767) rfl rfl (qdd HT_.out (by kernel_rfl)) (by decide) (fun K hK => ?_); refine Kd.R_append_step (Kd.int .i64) (w0 := w) w.heap.size (by rfl) (.tmp 19) (.tmp 32) 37 3 (.int .i64 0) 8 rfl Try.underlying37 qi3 rfl (by decide) (by omega) u9 x9_1 (wrap64 ((rd l1 qbI) * t137)) [.int .i64 (wrap64 ((rd l1 qbI) * t137))] (fun _ => True) (fun _ => False) rfl rfl ?aP (fun _ hk => hk.elim) ?aF ?aO ?aB ?aS ?aL ?_
         (case aP => exact rfl)
         (case aB => exact (by repeat (first | (with_reducible first | exact HB.out | apply qag | apply qad | apply qah | refine qaf ?_ qgk.out) | exact HB.out)))
         (case aF => exact (fun _ _ => trivial))
         (case aO => exact (by (with_reducible repeat (first | apply Kd.R_alloc | apply Kd.R_drewN | apply Kd.R_drew)); exact HO_9.out))
         (case aS => exact (qav (by repeat (first | (with_reducible first | exact HB.out | apply qag | apply qad | apply qah | refine qaf ?_ qgk.out) | exact HB.out))))
         (case aL => have := qpm.out; omega)
         intro v139 w16 ho hb hg hat; rw [← qpn.out] at ho; have n0_ := qaa.mk (qej (g := qgp) (o := .cells #[.func (.func 68) #[] #[]] 104 (0, 0)) (by (with_reducible repeat (first | refine qac ?_ _ | refine qae ?_ | refine qab ?_ _)); exact qc7.out) hg (Kd.R_ne HO_9.out qc7.out (by decide))); have n1_ := qaa.mk (hb); have n2_ := qaa.mk (ho); clear qc7 HB HO_9; have qc7 := n0_; have HB := n1_; have qpk := n2_; clear n0_ n1_ n2_ ho hb hg hat; refine hK.out _ _ ⟨(qai qc7.out 0).trans rfl, ((HB.out.cell (World.block_lt_of_cell? w _ qdA)).trans qdA), ((HB.out.cell (World.block_lt_of_cell? w _ qdB)).trans qdB), ((HB.out.cell (World.block_lt_of_cell? w _ qdC)).trans qdC)⟩ (fun hHeld => ?_); clear hK K; refine qcX (a' := ?_) ?_ ?_; rotate_left
         ·
          show Act.put _ (some 33) _ = _
          simp only [qaq, qam, qap, qao, qan, qaB, qaC]; rfl
         refine qax 15 (some 9) (qas 16 65535) rfl rfl HT_.out (by kernel_rfl) (fun _ _ _ h => h) ⟨.inl ⟨by rfl, fun w' => by go_simp; with_reducible rfl⟩, by simp only [qaq, qam, qap, qao, qan, qaB, qaC]; rfl, ?_⟩; refine qgo (qe9 HT_.out (by kernel_rfl)) ?_
         try go_wp2
         go_roundg k1
         case measure => have := HK1.out; omega
         case rel => exact ⟨(y138), (wrap64 (qbI + 1)), (by first | rfl | (simp; done) | (simp [*]; done)), H', ⟨by have := HK1.out; omega⟩, ⟨by (with_reducible repeat (first | apply Kd.R_alloc | apply Kd.R_drewN | apply Kd.R_drew)); exact qpk.out⟩, ⟨by (with_reducible repeat (first | refine qac ?_ _ | refine qae ?_ | refine qab ?_ _)); exact qc7.out⟩, ⟨by repeat (first | (with_reducible first | exact HB.out | apply qag | apply qad | apply qah | refine qaf ?_ qgk.out) | exact HB.out)⟩⟩
        rw [if_neg c13] at H
        exact absurd H (by simp)
       rw [if_neg c11] at H
       exact absurd H (by simp)
      rw [if_neg c10] at H
      exact absurd H (by simp)
     rw [if_neg c9] at H
     exact absurd H (by simp)
    rw [if_neg c8] at H
    exact absurd H (by simp)
   rw [if_neg c7] at H
   exact absurd H (by simp)
  rw [if_neg c6] at H
  have c6b0 : decide (qbI < (l1.length : Int)) = false := decide_eq_false c6
  clear c6
  replace H := Option.bind_eq_some_iff.mp H
  obtain ⟨t141, A170, H⟩ := H
  replace H : (some t141) = some r := H
  have A17 := qaa.mk A170
  clear A170
  obtain rfl := Option.some.inj H
  obtain ⟨Ao18, co18, eo18⟩ := Kd.R_slice HO_9.out
  subst eo18
  go_wp2_with (first | ((with_reducible refine qaT (f := 97) rfl ?_); refine qbs (some 36) rfl rfl Try.func97 (by kernel_rfl) rfl #[.slice Ao18 x9_1.length co18] rfl (by (try simp only [List.map_toArray, List.map_cons, List.map_nil]); first | done | rfl | (simp only [List.length_drop, List.length_take]; rfl)) ?_; (with_reducible refine (qbh.calls k1 _ _ x9_1 t141 _ ?side1 ?side2 A17.out).mono ?_); (case side1 => repeat (first | exact (Kd.R_reads' HO_9.out).2.2 | (with_reducible refine Kd.C_alloc ?_ _) | (with_reducible refine Kd.C_drewN ?_ _) | (with_reducible refine Kd.C_drew ?_))); (case side2 => exact (Kd.R_reads' HO_9.out).2.1); rintro e w' ⟨rfl, ⟨nd, rfl⟩⟩; refine ⟨_, rfl, ?_⟩))
  go_ret
  exact ⟨by first | rfl | (simp [qaO, qaP] <;> rfl) | (simp [*, qaO, qaP] <;> rfl), by repeat (first | (with_reducible first | exact HB.out | apply qag | apply qad | apply qah | refine qaf ?_ qgk.out) | exact HB.out)⟩
end Go.Proofs.Ytmhomdohhihlcaa.P
namespace Go.Proofs.Ytmhomdohhihlcaa.P
open Go.RowKit Go.Proofs.YtmhomdohhihlcaaW.PrintWords Go.Proofs.YtmhomdohhihlcaaW.PrintLast Go.Proofs.YtmhomdohhihlcaaW.PrintMore
attribute [local go_sem] qb2 qb4 qcg qch qbQ qbR qb3 qb5
def qa5.l0 : Nat → List (List (S25)) → Int → List Int → List Int → Int → Int → Option (Int)
 | 0, _, _, _, _, _, _ => none
 | k + 1, x2, x3, x9, x12, x13, x14 => if x14 < x13 then (if 0 ≤ x14 then (if x14 < (x12.length : Int) then (if x14 < (x2.length : Int) then (if 0 ≤ x3 then (if x3 < ((qdp x2 x14).length : Int) then ((qeP.f ((qbG (qdp x2 x14) x3).f0) ((qbG (qdp x2 x14) x3).f1)).bind fun t137 => (if x9.length < 17592186044416 then (qa5.l0 k x2 x3 (x9 ++ [wrap64 ((rd x12 x14) * t137)]) x12 x13 (wrap64 (x14 + 1))) else (none))) else (none)) else (none)) else (none)) else (none)) else (none)) else ((qbh.f k x9).bind fun t141 => (some t141))
def qa5.f (k : Nat) (a0_0 : Int) (l1 : List Int) (l2 : List (List (S25))) (a3 : Int) : Option (Int) := qa5.l0 k l2 a3 ([] : List Int) l1 (l1.length : Int) 0
theorem qa5.mono_l : ∀ k, (∀ y0 y1 y2 y3 y4 y5, LeO (qa5.l0 k y0 y1 y2 y3 y4 y5) (qa5.l0 (k + 1) y0 y1 y2 y3 y4 y5))
 | 0 => fun _ _ _ _ _ _ r h => by simp [qa5.l0] at h
 | k + 1 => by
  have ih0 := qa5.mono_l k
  intro y0 y1 y2 y3 y4 y5
  unfold qa5.l0
  repeat' first
  | (with_reducible exact ih0 _ _ _ _ _ _)
  | (with_reducible exact qbh.mono _ _)
  | (with_reducible exact LeO.refl _)
  | (with_reducible exact LeO.none _)
  | (with_reducible refine LeO.ite ?_ ?_)
  | (with_reducible refine LeO.bind ?_ (fun _ => ?_))
  | exact ih0 _ _ _ _ _ _
  | exact qbh.mono _ _
  | exact LeO.none _
  | refine LeO.ite ?_ ?_
  | refine LeO.bind ?_ (fun _ => ?_)
theorem qa5.mono : ∀ a0 a1 a2 a3 k, LeO (qa5.f k a0 a1 a2 a3) (qa5.f (k + 1) a0 a1 a2 a3) := by
 intro a0 a1 a2 a3 k
 have ih0 := qa5.mono_l k
 unfold qa5.f
 repeat' first
   | (with_reducible exact ih0 _ _ _ _ _ _)
   | (with_reducible exact qbh.mono _ _)
   | (with_reducible exact LeO.refl _)
   | (with_reducible exact LeO.none _)
   | (with_reducible refine LeO.ite ?_ ?_)
   | (with_reducible refine LeO.bind ?_ (fun _ => ?_))
   | exact ih0 _ _ _ _ _ _
   | exact qbh.mono _ _
   | exact LeO.none _
   | refine LeO.ite ?_ ?_
   | refine LeO.bind ?_ (fun _ => ?_)
def qa5.T5 : Bool × List (List Nat × List Nat) := (true, [([], []), ([], []), ([], []), ([2], [2]), ([], []), ([], []), ([4, 5], [4, 5]), ([6], [6]), ([], []), ([7, 8], [7, 8]), ([9], [9]), ([3, 10], [3, 10]), ([1, 11], [1, 11]), ([12], [12]), ([0, 13, 11], [0, 13]), ([14, 14, 0, 1, 2, 3, 4, 5, 6, 7, 8, 9, 10, 11, 12, 13, 14], [0, 14])])
def qa5.B5 : List Nat := [0, 0, 0, 4, 0, 0, 48, 112, 0, 496, 1008, 2044, 4094, 8190, 16383, 32767]
theorem qa5.tab5 : rtab .any (qi4 Try.f71 5) = qa5.T5 := by kernel_rfl
theorem qa5.bits5 : qfh qa5.T5.2 qa5.B5 = true := by kernel_rfl
set_option maxHeartbeats 8000000 in
set_option maxRecDepth 100000 in
theorem qa5.calls (k : Nat) (a0_0 : Int) (A1 : Option Addr) (c1 : Nat) (l1 : List Int) (A2 : Option Addr) (c2 : Nat) (l2 : List (List (S25))) (a3 : Int) (r : Int) (w : World) (hr1 : Kd.C (Kd.int .i64) w A1 l1.length l1) (hc1 : l1.length ≤ c1) (hr2 : Kd.C (Kd.slice 25 k25) w A2 l2.length l2) (hc2 : l2.length ≤ c2) (h : qa5.f k a0_0 l1 l2 a3 = some r) :
  Calls Try.prog 71 #[.agg #[.func (.func 69) #[] #[]], .slice A1 l1.length c1, .slice A2 l2.length c2, .int .i64 a3] w fun e w' => e = .returned (.int .i64 r) ∧ Below w.heap.size w w' := by
 have qvb := Try.underlying104
 have hu25 := Try.underlying25
 have HR1 := qaa.mk hr1
 have HC1 := qaa.mk hc1
 clear hr1 hc1
 have HR2 := qaa.mk hr2
 have HC2 := qaa.mk hc2
 clear hr2 hc2
 have HB := qaa.mk (Below.refl w.heap.size w)
 have H : (qa5.l0 k l2 a3 ([] : List Int) l1 (l1.length : Int) 0) = some r := h
 clear h
 have H' := qaa.mk H
 clear H
 go_enter Try.func71, Try.ntmps71
 go_wp2_with (first | ((with_reducible refine qa1 (N := 4) rfl ?_); refine qbq ?hg (N := 4) ?hd (cs := #[.func (.func 69) #[] #[]]) (t := 104) ?hr ?_; (case hd => rfl); (case hg => rfl); (case hr => first | (go_simp; done) | (go_simp; rfl)); intro qgp hg w5 hbox hb; have n0_ := qaa.mk (qaA (by repeat (first | (with_reducible first | exact HB.out | apply qag | apply qad | apply qah) | exact HB.out)) hb); have n1_ := qaa.mk (hbox); have n2_ := qaa.mk ((by rw [hg]; exact (qav (by repeat (first | (with_reducible first | exact HB.out | apply qag | apply qad | apply qah) | exact HB.out))) : w.heap.size ≤ qgp)); have n3_ := qaa.mk ((by rw [hg]; exact (qav (by repeat (first | (with_reducible first | exact HB.out | apply qag | apply qad | apply qah) | exact HB.out))) : w.heap.size ≤ qgp)); clear HB; have HB := n0_; have qc7 := n1_; have qt3 := n2_; have qgk := n3_; clear n0_ n1_ n2_ n3_; clear hb hbox hg))
 go_loopg [9, 14] k (fun kq v9 v14 w' => ∃ (x9_1 : List Int) (qbI : Int), v14 = .int .i64 qbI ∧ qaa (qa5.l0 kq l2 a3 x9_1 l1 (l1.length : Int) qbI = some r) ∧ qaa (kq ≤ k) ∧ qaa (Kd.R (Kd.int .i64) 3 w' w.heap.size (fun _ => True) v9 x9_1) ∧ qaa (w'.heap[qgp]? = some (.cells #[.func (.func 69) #[] #[]] 104 (0, 0))) ∧ qaa (Below w.heap.size w w'))
 case atStart => exact ⟨(([] : List Int)), (0), (by first | rfl | (simp; done) | (simp [*]; done)), H', ⟨Nat.le_refl _⟩, ⟨by first | exact Kd.R_nil _ _ _ _ _ | exact Kd.N_nil _ _ _ _ _ | exact Kd.V_nil _ _ _ _ _ | exact Kd.Q_nil _ _ _ _ _ | exact Kd.S_nil _ _ _ _ _⟩, ⟨by (with_reducible repeat (first | refine qac ?_ _ | refine qae ?_ | refine qab ?_ _)); exact qc7.out⟩, ⟨by repeat (first | (with_reducible first | exact HB.out | apply qag | apply qad | apply qah | refine qaf ?_ qgk.out) | exact HB.out)⟩⟩
 clear H'
 try clear c1
 try clear c2
 try clear p2
 obtain ⟨x9_1, qbI, rfl, HA, HK1, HO_9, qc7, HB⟩ := hrel
 cases gk with
 | zero => exact absurd HA.out (by simp [qa5.l0])
 | succ k1 =>
  have H := HA.out
  clear HA
  simp only [qa5.l0] at H
  by_cases c6 : qbI < (l1.length : Int)
  ·
   rw [if_pos c6] at H
   have c6b0 : decide (qbI < (l1.length : Int)) = true := decide_eq_true c6
   clear c6
   by_cases c7 : 0 ≤ qbI
   ·
    rw [if_pos c7] at H; have c7b0 : decide (0 ≤ qbI) = true := decide_eq_true c7; clear c7
    by_cases c8 : qbI < (l1.length : Int)
    ·
     rw [if_pos c8] at H; have c8b0 : decide (qbI < (l1.length : Int)) = true := decide_eq_true c8; clear c8
     by_cases c9 : qbI < (l2.length : Int)
     ·
      rw [if_pos c9] at H; have c9b0 : decide (qbI < (l2.length : Int)) = true := decide_eq_true c9; clear c9
      by_cases c10 : 0 ≤ a3
      ·
       rw [if_pos c10] at H; have c10b0 : decide (0 ≤ a3) = true := decide_eq_true c10; clear c10
       by_cases c11 : a3 < ((qdp l2 qbI).length : Int)
       ·
        rw [if_pos c11] at H; have c11b0 : decide (a3 < ((qdp l2 qbI).length : Int)) = true := decide_eq_true c11; clear c11; replace H := Option.bind_eq_some_iff.mp H; obtain ⟨t137, A120, H⟩ := H; replace H : (if x9_1.length < 17592186044416 then (qa5.l0 k1 l2 a3 (x9_1 ++ [wrap64 ((rd l1 qbI) * t137)]) l1 (l1.length : Int) (wrap64 (qbI + 1))) else (none)) = some r := H; have A12 := qaa.mk A120; clear A120
        by_cases c13 : x9_1.length < 17592186044416
        ·
         rw [if_pos c13] at H; have qpm := qaa.mk c13; clear c13; obtain ⟨y138, qhF⟩ : ∃ y_ : List Int, y_ = (x9_1 ++ [wrap64 ((rd l1 qbI) * t137)]) := ⟨_, rfl⟩
         replace H : (qa5.l0 k1 l2 a3 y138 l1 (l1.length : Int) (wrap64 (qbI + 1))) = some r := by first | (rw [qhF]; with_reducible exact H) | (have H2_ := (Option.bind_some _ _).symm.trans H; rw [qhF]; with_reducible exact H2_) | (have H2_ := (Option.bind_some _ _).symm.trans H; with_reducible exact H2_) | with_reducible exact H | (rw [qhF]; exact H) | exact H
         have qpn := qaa.mk qhF; clear qhF; have H' := qaa.mk H; clear H; have p134 : 0 ≤ (qbI : Int) := of_decide_eq_true (by first | (with_reducible assumption) | assumption); have q134 : qbI < (l1.length : Int) := of_decide_eq_true (by first | (with_reducible assumption) | assumption); obtain ⟨qug, e134, qhN⟩ := Kd.at_int HR1.out qbI p134 q134; cases e134; replace qhN := (HB.out.cell (World.block_lt_of_cell? w _ qhN)).trans qhN; replace p134 := eq_true p134; replace q134 := eq_true q134
         try go_wp2
         have n0_ := qaa.mk (Kd.R_drew HO_9.out); have n1_ := qaa.mk (qae qc7.out); have n2_ := qaa.mk (qah HB.out); clear HO_9 qc7 HB; have HO_9 := n0_; have qc7 := n1_; have HB := n2_; clear n0_ n1_ n2_; have p135 : 0 ≤ (qbI : Int) := of_decide_eq_true (by first | (with_reducible assumption) | assumption); have q135 : qbI < (l2.length : Int) := of_decide_eq_true (by first | (with_reducible assumption) | assumption); obtain ⟨qpo, qtv, qnZ, e135, qfF, qjE, qjA⟩ := qpt HR2.out qbI p135 q135; have qdA := qfF; cases e135; replace qfF := (HB.out.cell (World.block_lt_of_cell? w _ qfF)).trans qfF; have qi9 := qaa.mk qjA; have qrJ := qaa.mk qjE; clear qjA qjE; replace p135 := eq_true p135; replace q135 := eq_true q135; have p136 : 0 ≤ (a3 : Int) := of_decide_eq_true (by first | (with_reducible assumption) | assumption); have q136 : a3 < ((qdp l2 qbI).length : Int) := of_decide_eq_true (by first | (with_reducible assumption) | assumption); obtain ⟨qij, e136, qfG, qfH⟩ := qhC qi9.out a3 p136 q136; have qdC := qfH; have qdB := qfG; cases e136; replace qfG := (HB.out.cell (World.block_lt_of_cell? w _ qfG)).trans qfG; replace qfH := (HB.out.cell (World.block_lt_of_cell? w _ qfH)).trans qfH; replace p136 := eq_true p136; replace q136 := eq_true q136; refine qfM (n := 16) (S := fun w' => w'.cell? ⟨qgp, 0, none⟩ = some (.func (.func 69) #[] #[]) ∧ w'.cell? (qpo.add (qbI).toNat) = some (.slice (some qij) (qdp l2 qbI).length qnZ) ∧ w'.cell? (qij.add ((a3).toNat * 2)) = some (.int .i64 ((qbG (qdp l2 qbI) a3).f0)) ∧ w'.cell? ⟨(qij.add ((a3).toNat * 2)).block, (qij.add ((a3).toNat * 2)).off + 1, none⟩ = some (.int .i64 ((qbG (qdp l2 qbI) a3).f1))) (ds := []) (qas 16 0) (by kernel_rfl) rfl rfl ⟨(qai qc7.out 0).trans rfl, ((HB.out.cell (World.block_lt_of_cell? w _ qdA)).trans qdA), ((HB.out.cell (World.block_lt_of_cell? w _ qdB)).trans qdB), ((HB.out.cell (World.block_lt_of_cell? w _ qdC)).trans qdC)⟩ (fun hHeld => ?_); refine qel qa5.tab5 qa5.bits5 (fun HT_ HW_ => ?_)
         generalize wr.drew = w14 at HO_9 qc7 HB qi9 qfF qfG qfH hHeld ⊢
         refine qax 0 (some 19) (qas 16 1) rfl rfl HT_.out (by kernel_rfl) (fun _ _ _ h => h) ⟨.inl ⟨by rfl, fun w' => by go_simp; with_reducible rfl⟩, by simp only [qaq, qam, qap, qao, qan, qaB, qaC]; rfl, ?_⟩; refine qax 1 (some 20) (qas 16 3) rfl rfl HT_.out (by kernel_rfl) (fun _ _ _ h => h) ⟨.inl ⟨by rfl, fun w' => by go_simp; with_reducible rfl⟩, by simp only [qaq, qam, qap, qao, qan, qaB, qaC]; rfl, ?_⟩; refine qax 2 (some 21) (qas 16 7) rfl rfl HT_.out (by kernel_rfl) (fun _ _ _ h => h) ⟨.inl ⟨by rfl, fun w' => by go_simp; with_reducible rfl⟩, by simp only [qaq, qam, qap, qao, qan, qaB, qaC]; rfl, ?_⟩; refine qax 4 (some 23) (qas 16 23) rfl rfl HT_.out (by kernel_rfl) (fun _ _ _ h => h) ⟨.inl ⟨by rfl, fun w' => by go_simp; with_reducible rfl⟩, by simp only [qaq, qam, qap, qao, qan, qaB, qaC]; rfl, ?_⟩; refine qax 5 (some 24) (qas 16 55) rfl rfl HT_.out (by kernel_rfl) (fun _ _ _ h => h) ⟨.inl ⟨by rfl, fun w' => by go_simp; with_reducible rfl⟩, by simp only [qaq, qam, qap, qao, qan, qaB, qaC]; rfl, ?_⟩; refine qax 6 (some 25) (qas 16 119) rfl rfl HT_.out (by kernel_rfl) (fun _ _ _ h => h) ⟨.inl ⟨by rfl, fun w' => by go_simp; with_reducible rfl⟩, by simp only [qaq, qam, qap, qao, qan, qaB, qaC]; rfl, ?_⟩; refine qax 8 (some 27) (qas 16 375) rfl rfl HT_.out (by kernel_rfl) (fun _ _ _ h => h) ⟨.inl ⟨by rfl, fun w' => by go_simp; with_reducible rfl⟩, by simp only [qaq, qam, qap, qao, qan, qaB, qaC]; rfl, ?_⟩; refine qcD 3 (some 22) (qas 16 383) rfl rfl (qcE HT_.out HW_.out (by kernel_rfl)) (fun _ _ _ h => h) hHeld ⟨.inl ⟨by rfl, by rintro w' ⟨s0, s1, s2, s3⟩; go_simp; with_reducible rfl⟩, by simp only [qaq, qam, qap, qao, qan, qaB, qaC]; rfl, ?_⟩; refine qcD 7 (some 26) (qas 16 511) rfl rfl (qcE HT_.out HW_.out (by kernel_rfl)) (fun _ _ _ h => h) hHeld ⟨.inl ⟨by rfl, by rintro w' ⟨s0, s1, s2, s3⟩; go_simp; with_reducible rfl⟩, by simp only [qaq, qam, qap, qao, qan, qaB, qaC]; rfl, ?_⟩; refine qax 9 (some 28) (qas 16 1023) rfl rfl HT_.out (by kernel_rfl) (fun _ _ _ h => h) ⟨.inl ⟨by rfl, fun w' => by go_simp; with_reducible rfl⟩, by simp only [qaq, qam, qap, qao, qan, qaB, qaC]; rfl, ?_⟩; refine qcD 10 (some 29) (qas 16 2047) rfl rfl (qcE HT_.out HW_.out (by kernel_rfl)) (fun _ _ _ h => h) hHeld ⟨.inl ⟨by rfl, by rintro w' ⟨s0, s1, s2, s3⟩; go_simp; with_reducible rfl⟩, by simp only [qaq, qam, qap, qao, qan, qaB, qaC]; rfl, ?_⟩; refine one_ (i := 11) (N := some 30) (qas 16 4095) rfl rfl (qdd HT_.out (by kernel_rfl)) (by decide) (fun K hK => ?_); refine qlD Try.func69 (by kernel_rfl) rfl #[.agg #[.int .i64 ((qbG (qdp l2 qbI) a3).f0), .int .i64 ((qbG (qdp l2 qbI) a3).f1)]] 22 (by rfl) rfl rfl rfl (by (try simp only [List.map_toArray, List.map_cons, List.map_nil]); first | done | rfl | (simp only [List.length_drop, List.length_take]; rfl)) ?_
         with_reducible refine (qeP.calls ((qbG (qdp l2 qbI) a3).f0) ((qbG (qdp l2 qbI) a3).f1) t137 _ A12.out).mono ?_
         rintro e w15 ⟨rfl, hb⟩; refine ⟨_, rfl, ?_⟩; have n0_ := qaa.mk (Kd.R_below (by (with_reducible repeat (first | apply Kd.R_alloc | apply Kd.R_drewN | apply Kd.R_drew)); exact HO_9.out) hb); have n1_ := qaa.mk (qar (g := qgp) (o := .cells #[.func (.func 69) #[] #[]] 104 (0, 0)) (by (with_reducible repeat (first | refine qac ?_ _ | refine qae ?_ | refine qab ?_ _)); exact qc7.out) hb); have n2_ := qaa.mk (qaA (by repeat (first | (with_reducible first | exact HB.out | apply qag | apply qad | apply qah | refine qaf ?_ qgk.out) | exact HB.out)) hb); clear HO_9 qc7 HB; have HO_9 := n0_; have qc7 := n1_; have HB := n2_; clear n0_ n1_ n2_
         (try clear hb)
         (try clear hb2)
         (try clear hk)
         (try clear hi)
         refine hK.out _ _ ⟨(qai qc7.out 0).trans rfl, ((HB.out.cell (World.block_lt_of_cell? w _ qdA)).trans qdA), ((HB.out.cell (World.block_lt_of_cell? w _ qdB)).trans qdB), ((HB.out.cell (World.block_lt_of_cell? w _ qdC)).trans qdC)⟩ (fun hHeld => ?_); clear hK K; refine qcX (a' := ?_) ?_ ?_; rotate_left
         ·
          show Act.put _ (some 30) _ = _
          simp only [qaq, qam, qap, qao, qan, qaB, qaC]; rfl
         refine qax 12 (some 31) (qas 16 8191) rfl rfl HT_.out (by kernel_rfl) (fun _ _ _ h => h) ⟨.inl ⟨by rfl, fun w' => by go_simp; with_reducible rfl⟩, by simp only [qaq, qam, qap, qao, qan, qaB, qaC]; rfl, ?_⟩; refine one_ (i := 13) (N := some 32) (qas 16 16383) rfl rfl (qdd HT_.out (by kernel_rfl)) (by decide) (fun K hK => ?_); refine qor (w1 := ?_) (v := ?_) (by rfl) rfl ?_ ?_
         rotate_left 2
         ·
          go_simp
          constructor
          · rfl
          rfl
         refine hK.out _ _ ⟨(qai (qab qc7.out _) 0).trans rfl, (World.cell?_alloc_lt _ _ _ (World.block_lt_of_cell? _ _ (((HB.out.cell (World.block_lt_of_cell? w _ qdA)).trans qdA)))).trans (((HB.out.cell (World.block_lt_of_cell? w _ qdA)).trans qdA)), (World.cell?_alloc_lt _ _ _ (World.block_lt_of_cell? _ _ (((HB.out.cell (World.block_lt_of_cell? w _ qdB)).trans qdB)))).trans (((HB.out.cell (World.block_lt_of_cell? w _ qdB)).trans qdB)), (World.cell?_alloc_lt _ _ _ (World.block_lt_of_cell? _ _ (((HB.out.cell (World.block_lt_of_cell? w _ qdC)).trans qdC)))).trans (((HB.out.cell (World.block_lt_of_cell? w _ qdC)).trans qdC))⟩ (fun hHeld => ?_); clear hK K; refine qcX (a' := ?_) ?_ ?_; rotate_left
         ·
          show Act.put _ (some 32) _ = _
          simp only [qaq, qam, qap, qao, qan, qaB, qaC]; rfl
         refine one_ (i := 14) (N := some 33) (qas 16 32767) rfl rfl (qdd HT_.out (by kernel_rfl)) (by decide) (fun K hK => ?_); refine Kd.R_append_step (Kd.int .i64) (w0 := w) w.heap.size (by rfl) (.tmp 19) (.tmp 32) 37 3 (.int .i64 0) 8 rfl Try.underlying37 qi3 rfl (by decide) (by omega) u9 x9_1 (wrap64 ((rd l1 qbI) * t137)) [.int .i64 (wrap64 ((rd l1 qbI) * t137))] (fun _ => True) (fun _ => False) rfl rfl ?aP (fun _ hk => hk.elim) ?aF ?aO ?aB ?aS ?aL ?_
         (case aP => exact rfl)
         (case aB => exact (by repeat (first | (with_reducible first | exact HB.out | apply qag | apply qad | apply qah | refine qaf ?_ qgk.out) | exact HB.out)))
         (case aF => exact (fun _ _ => trivial))
         (case aO => exact (by (with_reducible repeat (first | apply Kd.R_alloc | apply Kd.R_drewN | apply Kd.R_drew)); exact HO_9.out))
         (case aS => exact (qav (by repeat (first | (with_reducible first | exact HB.out | apply qag | apply qad | apply qah | refine qaf ?_ qgk.out) | exact HB.out))))
         (case aL => have := qpm.out; omega)
         intro v139 w16 ho hb hg hat; rw [← qpn.out] at ho; have n0_ := qaa.mk (qej (g := qgp) (o := .cells #[.func (.func 69) #[] #[]] 104 (0, 0)) (by (with_reducible repeat (first | refine qac ?_ _ | refine qae ?_ | refine qab ?_ _)); exact qc7.out) hg (Kd.R_ne HO_9.out qc7.out (by decide))); have n1_ := qaa.mk (hb); have n2_ := qaa.mk (ho); clear qc7 HB HO_9; have qc7 := n0_; have HB := n1_; have qpk := n2_; clear n0_ n1_ n2_ ho hb hg hat; refine hK.out _ _ ⟨(qai qc7.out 0).trans rfl, ((HB.out.cell (World.block_lt_of_cell? w _ qdA)).trans qdA), ((HB.out.cell (World.block_lt_of_cell? w _ qdB)).trans qdB), ((HB.out.cell (World.block_lt_of_cell? w _ qdC)).trans qdC)⟩ (fun hHeld => ?_); clear hK K; refine qcX (a' := ?_) ?_ ?_; rotate_left
         ·
          show Act.put _ (some 33) _ = _
          simp only [qaq, qam, qap, qao, qan, qaB, qaC]; rfl
         refine qax 15 (some 9) (qas 16 65535) rfl rfl HT_.out (by kernel_rfl) (fun _ _ _ h => h) ⟨.inl ⟨by rfl, fun w' => by go_simp; with_reducible rfl⟩, by simp only [qaq, qam, qap, qao, qan, qaB, qaC]; rfl, ?_⟩; refine qgo (qe9 HT_.out (by kernel_rfl)) ?_
         try go_wp2
         go_roundg k1
         case measure => have := HK1.out; omega
         case rel => exact ⟨(y138), (wrap64 (qbI + 1)), (by first | rfl | (simp; done) | (simp [*]; done)), H', ⟨by have := HK1.out; omega⟩, ⟨by (with_reducible repeat (first | apply Kd.R_alloc | apply Kd.R_drewN | apply Kd.R_drew)); exact qpk.out⟩, ⟨by (with_reducible repeat (first | refine qac ?_ _ | refine qae ?_ | refine qab ?_ _)); exact qc7.out⟩, ⟨by repeat (first | (with_reducible first | exact HB.out | apply qag | apply qad | apply qah | refine qaf ?_ qgk.out) | exact HB.out)⟩⟩
        rw [if_neg c13] at H
        exact absurd H (by simp)
       rw [if_neg c11] at H
       exact absurd H (by simp)
      rw [if_neg c10] at H
      exact absurd H (by simp)
     rw [if_neg c9] at H
     exact absurd H (by simp)
    rw [if_neg c8] at H
    exact absurd H (by simp)
   rw [if_neg c7] at H
   exact absurd H (by simp)
  rw [if_neg c6] at H
  have c6b0 : decide (qbI < (l1.length : Int)) = false := decide_eq_false c6
  clear c6
  replace H := Option.bind_eq_some_iff.mp H
  obtain ⟨t141, A170, H⟩ := H
  replace H : (some t141) = some r := H
  have A17 := qaa.mk A170
  clear A170
  obtain rfl := Option.some.inj H
  obtain ⟨Ao18, co18, eo18⟩ := Kd.R_slice HO_9.out
  subst eo18
  go_wp2_with (first | ((with_reducible refine qaT (f := 97) rfl ?_); refine qbs (some 36) rfl rfl Try.func97 (by kernel_rfl) rfl #[.slice Ao18 x9_1.length co18] rfl (by (try simp only [List.map_toArray, List.map_cons, List.map_nil]); first | done | rfl | (simp only [List.length_drop, List.length_take]; rfl)) ?_; (with_reducible refine (qbh.calls k1 _ _ x9_1 t141 _ ?side1 ?side2 A17.out).mono ?_); (case side1 => repeat (first | exact (Kd.R_reads' HO_9.out).2.2 | (with_reducible refine Kd.C_alloc ?_ _) | (with_reducible refine Kd.C_drewN ?_ _) | (with_reducible refine Kd.C_drew ?_))); (case side2 => exact (Kd.R_reads' HO_9.out).2.1); rintro e w' ⟨rfl, ⟨nd, rfl⟩⟩; refine ⟨_, rfl, ?_⟩))
  go_ret
  exact ⟨by first | rfl | (simp [qaO, qaP] <;> rfl) | (simp [*, qaO, qaP] <;> rfl), by repeat (first | (with_reducible first | exact HB.out | apply qag | apply qad | apply qah | refine qaf ?_ qgk.out) | exact HB.out)⟩
end Go.Proofs.Ytmhomdohhihlcaa.P
namespace Go.Proofs.Ytmhomdohhihlcaa.P
open Go.RowKit Go.Shelf Go.Proofs.YtmhomdohhihlcaaW.PrintWords Go.Proofs.YtmhomdohhihlcaaW.PrintLast Go.Proofs.YtmhomdohhihlcaaW.PrintMore
attribute [local go_sem] Oper.semAt_some
section
variable {F : Fence} {n : Nat} {P : Program} {a : Act} {w : World} {Q : Exit → Act → World → Prop}
theorem qfU {b : Frame} {c : Code} {k : List Item} {cs : List Frame} : step P (lone (b.atR a (.code (.scope c) :: k)) cs w) = .next (lone (b.atR a (.code c :: .inScope c :: k)) cs w) :=
 step_lone_go (by simp [stepG, stepG.exec, Frame.atR])
theorem qno {b : Frame} {c : Code} {k : List Item} {cs : List Frame} : step P (lone (b.atR a (.inScope c :: k)) cs w) = .next (lone (b.atR a k) cs w) :=
 step_lone_go (by simp [stepG, stepG.exec, Frame.atR])
theorem qpV {c : Code} (h : c.wpIn F n P (Exit.noGoto Q) a w) : (Code.scope c).wpIn F n P Q a w := by
 intro b k cs hro hb hr
 have h0 : (lone (b.atR a (.code (.scope c) :: k)) cs w).fenced P F := fenced_calm hb hr rfl
 obtain ⟨e, a₁, w₁, hq, harr⟩ := h b (.inScope c :: k) cs hro hb hr
 cases e with
 | normal => exact ⟨.normal, a₁, w₁, hq, .head h0 qfU (StepsIn.trans harr (.one (fenced_calm hb hr rfl) qno))⟩
 | exit id' =>
  have hx : exitTo id' (.inScope c :: k) = exitTo id' k := by simp [exitTo]
  exact ⟨.exit id', a₁, w₁, hq, fun k' hk => .head h0 qfU (harr.1 k' (by rw [hx]; exact hk)),
    fun hr' hk => let ⟨k₁, h1, h2⟩ := harr.2 hr' (by rw [hx]; exact hk); ⟨k₁, h1, .head h0 qfU h2⟩⟩
 | goto l => exact hq.elim
 | ret => exact ⟨_, a₁, w₁, hq, .of_steps (.one h0 qfU) harr⟩
 | panic ch => exact ⟨_, a₁, w₁, hq, .of_steps (.one h0 qfU) harr⟩
 | outgrown => exact ⟨_, a₁, w₁, hq, .of_steps (.one h0 qfU) harr⟩
end
structure Stop (p : Prop) : Prop where
 out : p
theorem qkf {l n : Nat} {P : Program} {id : Nat} {Q : Exit → Act → World → Prop} {a : Act} {w : World} {ops : List Oper} (m : Nat) (hm : P.follows .mixedOrders = true) (hno : ¬ LetsOut Q) (hd : ops.toArray.all (fun o => match o.op with | .defer _ => false | _ => true) = true) (hB : Region.lexTailB .any ops.toArray m = true)
  (h : wpStill P ops.toArray { w with drawn := w.drawn + 1 } (fun a' => wpList P ops.toArray Q (ops.drop m) a' { w with drawn := w.drawn + 1 }) (ops.take m) a) : (Code.region id ops.toArray true).wpIn (Fence.wide.inRound l) n P Q a w := by
 simp only [Region.lexTailB, Bool.and_eq_true, decide_eq_true_eq] at hB
 obtain ⟨⟨⟨⟨hsel, hn⟩, hs⟩, hc⟩, hlex⟩ := hB
 have hn' : m < ops.length := by simpa using hn
 have htl : (ops.take m).length = m := by simp; omega
 have hdl : (ops.drop m).length = ops.toArray.size - m := by simp
 have inv0 : HeadInv .any ops.toArray m (Array.replicate ops.toArray.size false) :=
  ⟨by simp, fun j oj _ hl => (by rw [getD_replicate_false] at hl; cases hl), fun t _ ht => getD_in (by simpa using ht) (getD_replicate_false _ _)⟩
 have H := wpAnyL_lex (md := .any) (g := ops.toArray.size - m) hsel hs hc hn (ops.take m) 0 _ a (fun j hj => by
  have hj' : j < m := by rw [htl] at hj; exact hj
  simp [hj']) (by simpa using htl) inv0 (by rw [htl]; exact hlex) h
 refine qhH hm hno hd ?_
 have := wpAny_of_head (Q' := Q) (g := ops.toArray.size - m) (fun listed a' hL => by
  have := wpAny_of_seq (md := .any) (Q' := Q) (ops.drop m) m listed a' { w with drawn := w.drawn + 1 } (fun j => by simp [List.getElem?_drop]) (by rw [hdl]; exact hL.1) hL.2
  rwa [hdl] at this) _ _ _ H
 rw [htl, show m + (ops.toArray.size - m) = ops.toArray.size by omega] at this
 exact this
def qaS.ag (k : Nat) (l0 : List (List S25)) (l1 : List S25) (mix : List Int) : Nat → Int → Option Bool
 | 0, _ => some true
 | d + 1, i => (qbb.f k 0 mix l0 i).bind fun lo => if wrap64 (100 * (qbG l1 i).f1) < lo then some false else
   (qa5.f k 0 mix l0 i).bind fun hi => if hi < wrap64 (100 * (qbG l1 i).f0) then some false else qaS.ag k l0 l1 mix d (i + 1)
def qaS.wide (out : List S25) (mix : List Int) : List S25 := (out.zip mix).map fun p => ⟨if p.2 < p.1.f0 then p.2 else p.1.f0, if p.1.f1 < p.2 then p.2 else p.1.f1⟩
def qaS.st (k : Nat) (l0 : List (List S25)) (l1 : List S25) (out : List S25) (mix : List Int) : Option (List S25) :=
 (qaS.ag k l0 l1 mix l1.length 0).map fun b => if b then qaS.wide (if out = [] then mix.map (fun n => ⟨n, n⟩) else out) mix else out
def qaS.all (k : Nat) (l0 : List (List S25)) (l1 : List S25) : List (List Int) → List S25 → Option (List S25)
 | [], out => some out
 | x :: xs, out => (qaS.st k l0 l1 out x).bind fun o => qaS.all k l0 l1 xs o
def qaS.sg (k : Nat) (n : Int) : List (List S25) → Bool → Option Bool
 | [], ok => some ok
 | x :: xs, ok => if ok then (qa0.f k x n).bind fun b => qaS.sg k n xs b else qaS.sg k n xs false
def qaS.f (k : Nat) (l0 : List (List S25)) (l1 : List S25) : Option (List S25 × Int) :=
 (qaD.f (l0.length : Int) 1 3).bind fun b0 => (if b0 then qa0.f k l1 (l1.length : Int) else some false).bind fun b1 =>
 (qaS.sg k (l1.length : Int) l0 b1).bind fun ok => if ok then
  (qaS.all k l0 l1 (qf4 (l0.length - 1) 100 []) []).map fun out => if out = [] then ([], 4) else (out, 0)
 else some ([], 91)
def qfR (o : List S25) (x : List Int) (j : Nat) : List S25 := qaS.wide (o.take j) (x.take j) ++ o.drop j
theorem qpU (o : List S25) (x : List Int) : qfR o x 0 = o := by simp [qfR, qaS.wide]
theorem qqr {o : List S25} {x : List Int} (h : o.length = x.length) : qfR o x x.length = qaS.wide o x := by
 unfold qfR
 rw [List.take_length, ← h, List.take_length, List.drop_length, List.append_nil]
theorem qni {o : List S25} {x : List Int} (h : o.length = x.length) {j : Nat} (hj : j ≤ x.length) : (qfR o x j).length = x.length := by
 simp [qfR, qaS.wide]; omega
theorem qqQ {o : List S25} {x : List Int} (h : o.length = x.length) {j : Nat} (hj : j < x.length) : (qfR o x j).getD j z25 = o.getD j z25 := by
 have hl : (qaS.wide (o.take j) (x.take j)).length = j := by simp [qaS.wide]; omega
 unfold qfR
 rw [List.getD_eq_getElem?_getD, List.getD_eq_getElem?_getD, List.getElem?_append_right (by omega), hl, Nat.sub_self, List.getElem?_drop, Nat.add_zero]
theorem qpT {o : List S25} {x : List Int} (h : o.length = x.length) {j : Nat} (hj : j < x.length) {p : S25} (hp : (qfR o x j).getD j z25 = p) :
  (qfR o x j).set j ⟨if rd x (j : Int) < p.f0 then rd x (j : Int) else p.f0, if p.f1 < rd x (j : Int) then rd x (j : Int) else p.f1⟩ = qfR o x (j + 1) := by
 rw [qqQ h hj] at hp
 have hjo : j < o.length := by omega
 have hl : (qaS.wide (o.take j) (x.take j)).length = j := by simp [qaS.wide]; omega
 have e1 : o[j] = p := by rw [← hp]; simp [List.getD_eq_getElem?_getD, List.getElem?_eq_getElem hjo]
 have e2 : rd x (j : Int) = x[j] := by simp [rd, List.getD_eq_getElem?_getD, List.getElem?_eq_getElem hj]
 unfold qfR
 rw [List.set_append_right _ _ (by omega), hl, Nat.sub_self, List.drop_eq_getElem_cons hjo, List.set_cons_zero, List.take_succ_eq_append_getElem hjo, List.take_succ_eq_append_getElem hj, e2]
 unfold qaS.wide
 rw [List.zip_append (by simp; omega), List.map_append, List.append_assoc]
 simp [e1]
theorem qaS.ag_mono (l0 : List (List S25)) (l1 : List S25) (mix : List Int) (k : Nat) : ∀ (d : Nat) (i : Int), LeO (qaS.ag k l0 l1 mix d i) (qaS.ag (k + 1) l0 l1 mix d i)
 | 0, _ => LeO.refl _
 | d + 1, i => LeO.bind (qbb.mono _ _ _ _ _) (fun _ => LeO.ite (LeO.refl _) (LeO.bind (qa5.mono _ _ _ _ _) (fun _ => LeO.ite (LeO.refl _) (qaS.ag_mono l0 l1 mix k d (i + 1)))))
theorem qaS.all_mono (l0 : List (List S25)) (l1 : List S25) (k : Nat) : ∀ (xs : List (List Int)) (o : List S25), LeO (qaS.all k l0 l1 xs o) (qaS.all (k + 1) l0 l1 xs o)
 | [], _ => LeO.refl _
 | x :: xs, o => LeO.bind (LeO.map _ (qaS.ag_mono l0 l1 x k _ _)) (fun o2 => qaS.all_mono l0 l1 k xs o2)
theorem qaS.sg_mono (n : Int) (k : Nat) : ∀ (xs : List (List S25)) (b : Bool), LeO (qaS.sg k n xs b) (qaS.sg (k + 1) n xs b)
 | [], _ => LeO.refl _
 | x :: xs, b => LeO.ite (LeO.bind (qa0.mono _ _ _) (fun b2 => qaS.sg_mono n k xs b2)) (qaS.sg_mono n k xs false)
structure qfE (w : World) (A0 : Option Addr) (c0 n0 : Nat) (A1 : Option Addr) (c1 n1 : Nat) (W : World) : Prop where
 b2 : W.heap[w.heap.size]? = some (.cells #[.slice A0 n0 c0] 31 (0, 0))
 b3 : W.heap[w.heap.size + 1]? = some (.cells #[.slice A1 n1 c1] 32 (0, 0))
 below : Below w.heap.size w W
theorem qfE.keep {w : World} {A0 A1 : Option Addr} {c0 n0 c1 n1 : Nat} {W W1 : World} (h : qfE w A0 c0 n0 A1 c1 n1 W) (hb : Below W.heap.size W W1) : qfE w A0 c0 n0 A1 c1 n1 W1 :=
 ⟨qar h.b2 hb, qar h.b3 hb, h.below.trans (hb.mono h.below.size)⟩
theorem qfE.drew {w : World} {A0 A1 : Option Addr} {c0 n0 c1 n1 : Nat} {W : World} (h : qfE w A0 c0 n0 A1 c1 n1 W) (m : Nat) : qfE w A0 c0 n0 A1 c1 n1 (W.drewN m) :=
 ⟨h.b2, h.b3, qad h.below m⟩
theorem qo7 {k : Nat} {n : Int} : ∀ {l : List (List S25)} {b : Bool}, qaS.sg k n l b = some true → b = true
 | [], b, h => by simpa [qaS.sg] using h
 | x :: l, true, _ => rfl
 | x :: l, false, h => by
  rw [qaS.sg, if_neg (by decide)] at h
  exact qo7 h
theorem qox {a b c : Int} (h : qaD.f a b c = some true) : b ≤ a ∧ a ≤ c := by
 unfold qaD.f at h
 by_cases h1 : b ≤ a
 · rw [if_pos h1] at h; exact ⟨h1, by simpa using h⟩
 ·
  rw [if_neg h1] at h
  simp at h
theorem qol {n : Nat} {P : Program} {g : Operand} {p q : Tmp} {assign body : Code} {Q : Exit → Act → World → Prop} {a : Act} {w : World}
  {gf : Nat} {lb : Array Value} (hg : a.eval g = .func (.func gf) #[] lb) (eg : ∀ args w, (callFunc gf args).run P w = .ok (.enter gf args) w)
  {B : Nat} {xs : List (List Int)} {w0 : World} (hseq : qkh (n - 1) P gf lb B xs w0) (hb0 : Below w0.heap.size w0 w)
  (I : List (List Int) → World → Prop) (hI : OwnFrom w.heap.size I) (hI0 : ∀ W1 W2 row, I [] W1 → W1.grownBy W2 row → (∀ r, row = some r → w.heap.size ≤ r) → I [] W2) (h0 : I [] w)
  (hassign : ∀ (l : Nat) (v : Value) (W : World) (K : Act → World → Prop), K { tmps := (a.tmps.setIfInBounds p v).setIfInBounds q v, defers := [] } W →
   assign.wpIn (Fence.wide.inRound l) (n - 1 - 1) P (Exit.then K (fun _ _ _ => False)) { tmps := a.tmps.setIfInBounds p v, defers := [] } W)
  (hbody : ∀ (l : Nat) (pre : List (List Int)) (v : Value) (x : List Int) (W : World), I pre W → pre ++ [x] <+: xs → Kd.R (Kd.int .i64) 3 W B (fun _ => True) v x → body.wpIn (Fence.wide.inRound l) (n - 1 - 1) P (qop B w.heap.size I (pre ++ [x]) W) { tmps := (a.tmps.setIfInBounds p v).setIfInBounds q v, defers := [] } W)
  (hdone : ∀ (D : Nat) (W : World), w.heap.size ≤ D → I xs W → W.heap[D]? = some (.deferred (some [])) → Q .normal { a with defers := { target := .collected D, args := #[] } :: a.defers } W) :
  (Code.rangeFunc g #[p] assign body).wpIn Fence.wide n P Q a w :=
 qm5 hg eg hseq hb0 I hI hI0 h0 (fun v => { tmps := (a.tmps.setIfInBounds p v).setIfInBounds q v, defers := [] }) (fun l v W K hK => by
  have := hassign l v W K hK
  simpa using this) hbody hdone
structure ShI (w : World) (k : Nat) (l0 : List (List S25)) (l1 : List S25) (A0 : Option Addr) (c0 : Nat) (A1 : Option Addr) (c1 lb hb ob B : Nat) (pre : List (List Int)) (W : World) : Prop where
 ex : ∃ (v : Value) (out : List S25), qaS.all k l0 l1 pre [] = some out ∧ W.heap[ob]? = some (.cells #[v] 32 (0, 0)) ∧ Kd.R k25 25 W B (fun _ => True) v out ∧ (v = .slice none 0 0 ↔ out = [])
 bx : qfE w A0 c0 l0.length A1 c1 l1.length W
 lo : W.heap[lb]? = some (.cells #[.func (.func 68) #[] #[]] 104 (0, 0))
 hi : W.heap[hb]? = some (.cells #[.func (.func 69) #[] #[]] 104 (0, 0))
 sz : B ≤ W.heap.size
theorem qgn {W W1 : World} {row : Option Nat} (hg : W.grownBy W1 row) (hr : ∀ r, row = some r → ∃ o : Obj, W.heap[r]? = some o ∧ o.isCells = false) {g t : Nat} {cs : Array Value} {x : Nat × Nat} (h : W.heap[g]? = some (.cells cs t x)) : W1.heap[g]? = some (.cells cs t x) :=
 (hg.block g (Array.getElem?_eq_some_iff.1 h).1 (fun e => by obtain ⟨o, ho, hc⟩ := hr g e.symm; rw [h] at ho; cases ho; cases hc)).trans h
theorem ShI.step {w : World} {k : Nat} {l0 : List (List S25)} {l1 : List S25} {A0 A1 : Option Addr} {c0 c1 lb hb ob B : Nat} {pre : List (List Int)} {W W1 : World} {row : Option Nat} (h : ShI w k l0 l1 A0 c0 A1 c1 lb hb ob B pre W)
  (hg : W.grownBy W1 row) (hr : ∀ r, row = some r → w.heap.size ≤ r ∧ ∃ o : Obj, W.heap[r]? = some o ∧ o.isCells = false) : ShI w k l0 l1 A0 c0 A1 c1 lb hb ob B pre W1 := by
 have hr2 : ∀ r, row = some r → ∃ o : Obj, W.heap[r]? = some o ∧ o.isCells = false := fun r e => (hr r e).2
 obtain ⟨v, out, h1, h2, h3, h4⟩ := h.ex
 refine ⟨⟨v, out, h1, qgn hg hr2 h2, ?_, h4⟩, ⟨qgn hg hr2 h.bx.b2, qgn hg hr2 h.bx.b3, h.bx.below.grown hg h.bx.below.size (fun r e => (hr r e).1)⟩, qgn hg hr2 h.lo, qgn hg hr2 h.hi, Nat.le_trans h.sz hg.size⟩
 refine Kd.R_mono (Kd.R_move (Kd.R_bound h3) (fun b hb => ?_)) (fun _ _ => trivial)
 obtain ⟨_, _, _, q, _, cs, hc⟩ := hb
 rw [hc]
 exact qgn hg hr2 hc
theorem _root_.Go.Proofs.YtmhomdohhihlcaaW.PrintWords.Kd.R_types2 {α : Type} {d : Kd α} {e : Nat} {w : World} {base : Nat} {ok : Nat → Prop} {v : Value} {xs : List α} (h : d.R e w base ok v xs) {g : Nat} {x : Option (List Deferred)} (hb : w.heap[g]? = some (.deferred x)) : d.R e w base (fun k => ok k ∧ k ≠ g) v xs :=
 Kd.R_mono (Kd.R_bound h) (fun k hk => ⟨hk.1, by
  obtain ⟨_, _, _, q, hq, cells', hc⟩ := hk
  rintro rfl
  rw [hc] at hb
  cases hb⟩)
theorem qil {k : Nat} {l0 : List (List S25)} {l1 : List S25} : ∀ (a b : List (List Int)) (o : List S25), qaS.all k l0 l1 (a ++ b) o = (qaS.all k l0 l1 a o).bind fun o2 => qaS.all k l0 l1 b o2
 | [], b, o => rfl
 | x :: a, b, o => by
  simp only [List.cons_append, qaS.all, Option.bind_assoc]
  congr 1
  funext o2
  exact qil a b o2
theorem qqR (out : List S25) (mix : List Int) : (qaS.wide out mix).length = min out.length mix.length := by simp [qaS.wide]
theorem qoC {k : Nat} {l0 : List (List S25)} {l1 : List S25} {R : Nat} : ∀ (a : List (List Int)) (o r : List S25), (∀ x ∈ a, x.length = R) → (o = [] ∨ o.length = R) → qaS.all k l0 l1 a o = some r → r = [] ∨ r.length = R
 | [], o, r, _, ho, h => by
  injection h with h
  rw [← h]
  exact ho
 | x :: a, o, r, ha, ho, h => by
  obtain ⟨o2, h1, h2⟩ := Option.bind_eq_some_iff.1 h
  refine qoC a o2 r (fun y hy => ha y (List.mem_cons_of_mem _ hy)) ?_ h2
  obtain ⟨b, _, h3⟩ := Option.map_eq_some_iff.1 h1
  have hx := ha x List.mem_cons_self
  cases b with
  | false => rw [← h3]; exact ho
  | true =>
   rw [← h3, if_pos rfl, qqR]
   right
   by_cases hz : o = []
   · rw [if_pos hz, List.length_map]; omega
   · rw [if_neg hz]; have := ho.resolve_left hz; omega
theorem qnf : ∀ (m : Nat) (left : Int) (b x : List Int), x ∈ qf4 m left b → x.length = b.length + m + 1
 | 0, left, b, x, h => by
  rw [qf4, List.mem_singleton] at h
  simp [h]
 | m + 1, left, b, x, h => by
  rw [qf4] at h
  obtain ⟨n, _, h⟩ := List.mem_flatMap.1 h
  have := qnf m _ _ x h
  simp at this
  omega
theorem qfT {Bl B : Nat} {W W1 : World} (hb : Below W.heap.size W W1) : KeepsFrom Bl W W1 ∧ qcB B W W1 :=
 ⟨⟨hb.size, fun k o _ hk _ => (hb.block k (Array.getElem?_eq_some_iff.1 hk).1).trans hk⟩, ⟨hb.size, fun b cs t _ _ hk => (hb.block b (Array.getElem?_eq_some_iff.1 hk).1).trans hk⟩⟩
theorem ShI.same {w : World} {k : Nat} {l0 : List (List S25)} {l1 : List S25} {A0 A1 : Option Addr} {c0 c1 lb hb ob B : Nat} {pre : List (List Int)} {x : List Int} {W W1 : World} (h : ShI w k l0 l1 A0 c0 A1 c1 lb hb ob B pre W)
  (hbl : Below W.heap.size W W1) (hx : ∀ out, qaS.all k l0 l1 pre [] = some out → qaS.all k l0 l1 (pre ++ [x]) [] = some out) : ShI w k l0 l1 A0 c0 A1 c1 lb hb ob B (pre ++ [x]) W1 := by
 obtain ⟨v, out, h1, h2, h3, h4⟩ := h.ex
 exact ⟨⟨v, out, hx out h1, qar h2 hbl, Kd.R_below h3 hbl, h4⟩, h.bx.keep hbl, qar h.lo hbl, qar h.hi hbl, Nat.le_trans h.sz hbl.size⟩
structure ShO (w : World) (A0 : Option Addr) (c0 n0 : Nat) (A1 : Option Addr) (c1 n1 lb hb ob B : Nat) (Ax : Option Addr) (x : List Int) (W z : World) (o : List S25) : Prop where
 kf : KeepsFrom (B + 1) W z
 kr : qcB B W z
 bx : qfE w A0 c0 n0 A1 c1 n1 z
 lo : z.heap[lb]? = some (.cells #[.func (.func 68) #[] #[]] 104 (0, 0))
 hi : z.heap[hb]? = some (.cells #[.func (.func 69) #[] #[]] 104 (0, 0))
 ex : ∃ v, z.heap[ob]? = some (.cells #[v] 32 (0, 0)) ∧ Kd.R k25 25 z B (fun _ => True) v o ∧ (v = .slice none 0 0 ↔ o = [])
 cx : Kd.C (Kd.int .i64) z Ax x.length x
 sz : B ≤ z.heap.size
theorem qd0 {W W1 : World} {B : Nat} {v : Value} {o : List S25} (hr : Kd.R k25 25 W B (fun _ => True) v o) (hg : W.grownBy W1 v.ownBlock) {g t : Nat} {cs : Array Value} (ht : t ≠ 25) (h : W.heap[g]? = some (.cells cs t (0, 0))) : W1.heap[g]? = some (.cells cs t (0, 0)) :=
 (hg.block g (Array.getElem?_eq_some_iff.1 h).1 (fun e => by
  obtain ⟨cells, hc⟩ := qgg hr.2.choose_spec.1 g e.symm
  rw [h] at hc
  injection hc with hc
  injection hc with _ hc
  exact ht hc)).trans h
theorem ShO.app {w : World} {A0 A1 Ax : Option Addr} {c0 n0 c1 n1 lb : Nat} {x : List Int} {W z z3 : World} {o o2 : List S25} {v v3 : Value} (h : ShO w A0 c0 n0 A1 c1 n1 lb (lb + 1) (lb + 2) (lb + 3) Ax x W z o) (hwl : w.heap.size + 2 ≤ lb)
  (hb : z.heap[lb + 2]? = some (.cells #[v] 32 (0, 0))) (hr : Kd.R k25 25 z (lb + 3) (fun _ => True) v o) (hg : z.grownBy z3 v.ownBlock) (hr3 : Kd.R k25 25 z3 (lb + 3) (fun _ => True) v3 o2) (hv : v3 = .slice none 0 0 ↔ o2 = [])
  {nx cx : Nat} (hrow : Kd.R (Kd.int .i64) 3 W (lb + 3) (fun _ => True) (.slice Ax nx cx) x) : ShO w A0 c0 n0 A1 c1 n1 lb (lb + 1) (lb + 2) (lb + 3) Ax x W (z3.setCell ⟨lb + 2, 0, none⟩ v3) o2 := by
 have hb3 := qd0 hr hg (by decide) hb
 have hbk : Below (lb + 3) z z3 := (Below.refl _ z).grown hg h.sz (fun k e => (Kd.R_bound hr).1 k e |>.2.1)
 have hof : ∀ (k : Nat) (ob : Obj), ob.isCells = false → z.heap[k]? = some ob → (z3.setCell ⟨lb + 2, 0, none⟩ v3).heap[k]? = some ob := fun k ob hob hk => by
  refine (Below.heap_setCell z3 ⟨lb + 2, 0, none⟩ v3 k (fun e => ?_)).trans ((hg.block k (Array.getElem?_eq_some_iff.1 hk).1 (fun e => ?_)).trans hk)
  · have e2 : k = lb + 2 := e; rw [e2, hb] at hk; cases hk; cases hob
  · obtain ⟨cells, hc⟩ := qgg hr.2.choose_spec.1 k e.symm; rw [hk] at hc; cases hc; cases hob
 have hsz : (z3.setCell ⟨lb + 2, 0, none⟩ v3).heap.size = z3.heap.size := by simp
 have kr' : qcB (lb + 3) W (z3.setCell ⟨lb + 2, 0, none⟩ v3) := ⟨Nat.le_trans h.kr.size (by rw [hsz]; exact hg.size), fun b cs t hb1 ht hk => (Below.heap_setCell z3 ⟨lb + 2, 0, none⟩ v3 b (fun e => by have e2 : b = lb + 2 := e; omega)).trans (qd0 hr hg ht (h.kr.same b cs t hb1 ht hk))⟩
 refine ⟨⟨Nat.le_trans h.kf.size (by rw [hsz]; exact hg.size), fun k ob hk1 hk hob => hof k ob hob (h.kf.same k ob hk1 hk hob)⟩, kr',
  ⟨qau (qd0 hr hg (by decide) h.bx.b2) (p := ⟨lb + 2, 0, none⟩) (by simp; omega) _, qau (qd0 hr hg (by decide) h.bx.b3) (p := ⟨lb + 2, 0, none⟩) (by simp; omega) _, qaf (h.bx.below.trans (hbk.mono (by omega))) (by omega)⟩,
  qau (qd0 hr hg (by decide) h.lo) (p := ⟨lb + 2, 0, none⟩) (by simp) _, qau (qd0 hr hg (by decide) h.hi) (p := ⟨lb + 2, 0, none⟩) (by simp) _,
  ⟨v3, qaH hb3 0 _ rfl, Kd.R_mono (Kd.R_far (p := ⟨lb + 2, 0, none⟩) (Kd.R_types hr3 hb3 (by decide)) (fun _ hk => hk.2) _) (fun _ _ => trivial), hv⟩, (Kd.R_reads' (qkv hrow kr')).2.2, by rw [hsz]; exact Nat.le_trans h.sz hg.size⟩
theorem qte : (Try.prog.info? 25).map (·.size) = some 2 ∧ True := ⟨by
 have h := qqa
 cases hi : Try.prog.info? 25 with
 | none => rw [hi] at h; simp at h
 | some i => rw [hi] at h; simp at h; simp [h.2.1], trivial⟩
theorem ShO.put {w : World} {A0 A1 Ax : Option Addr} {c0 n0 c1 n1 lb : Nat} {x : List Int} {W z z3 : World} {o o1 o2 : List S25} {go n cap : Nat} (h : ShO w A0 c0 n0 A1 c1 n1 lb (lb + 1) (lb + 2) (lb + 3) Ax x W z o1) (hwl : w.heap.size + 2 ≤ lb)
  (hb : z.heap[lb + 2]? = some (.cells #[.slice (some ⟨go, 0, none⟩) n cap] 32 (0, 0))) (hr : Kd.R k25 25 z (lb + 3) (fun _ => True) (.slice (some ⟨go, 0, none⟩) n cap) o) (hg : z.grownBy z3 (some go)) (hr3 : Kd.R k25 25 z3 (lb + 3) (fun _ => True) (.slice (some ⟨go, 0, none⟩) n cap) o2) (hv : o2 ≠ [])
  {nx cx : Nat} (hrow : Kd.R (Kd.int .i64) 3 W (lb + 3) (fun _ => True) (.slice Ax nx cx) x) : ShO w A0 c0 n0 A1 c1 n1 lb (lb + 1) (lb + 2) (lb + 3) Ax x W z3 o2 := by
 have hg' : z.grownBy z3 (Value.slice (some ⟨go, 0, none⟩) n cap).ownBlock := hg
 have hbk : Below (lb + 3) z z3 := (Below.refl _ z).grown hg' h.sz (fun k e => (Kd.R_bound hr).1 k e |>.2.1)
 have hof : ∀ (k : Nat) (ob : Obj), ob.isCells = false → z.heap[k]? = some ob → z3.heap[k]? = some ob := fun k ob hob hk => by
  refine (hg'.block k (Array.getElem?_eq_some_iff.1 hk).1 (fun e => ?_)).trans hk
  obtain ⟨cells, hc⟩ := qgg hr.2.choose_spec.1 k e.symm
  rw [hk] at hc
  cases hc
  cases hob
 have kr' : qcB (lb + 3) W z3 := ⟨Nat.le_trans h.kr.size hg.size, fun b cs t hb1 ht hk => qd0 hr hg' ht (h.kr.same b cs t hb1 ht hk)⟩
 refine ⟨⟨Nat.le_trans h.kf.size hg.size, fun k ob hk1 hk hob => hof k ob hob (h.kf.same k ob hk1 hk hob)⟩, kr',
  ⟨qd0 hr hg' (by decide) h.bx.b2, qd0 hr hg' (by decide) h.bx.b3, ?_⟩, qd0 hr hg' (by decide) h.lo, qd0 hr hg' (by decide) h.hi,
  ⟨_, qd0 hr hg' (by decide) hb, hr3, ⟨fun e => (by cases e), fun e => absurd e hv⟩⟩, (Kd.R_reads' (qkv hrow kr')).2.2, Nat.le_trans h.sz hg.size⟩
 exact h.bx.below.trans (hbk.mono (by omega))
theorem qqd (R : Int) (w : World) : Calls Try.prog 70 #[.int .i64 R] w fun e w' => e = .returned (.func (.func 95) #[] #[.pointer (some ⟨w.heap.size, 0, none⟩)]) ∧ w' = w.alloc (.cells #[.int .i64 R] 3) := by
 go_enter Try.func70, Try.ntmps70
 go_wp2
 go_ret
 exact ⟨rfl, rfl⟩
set_option maxHeartbeats 8000000 in
set_option maxRecDepth 100000 in
theorem qaS.calls (k : Nat) (A0 : Option Addr) (c0 : Nat) (l0 : List (List S25)) (A1 : Option Addr) (c1 : Nat) (l1 : List S25) (r1 : List S25) (r2 : Int) (w : World) (hr0 : Kd.C (Kd.slice 25 k25) w A0 l0.length l0) (hc0 : l0.length ≤ c0) (hr1 : Kd.C k25 w A1 l1.length l1) (hc1 : l1.length ≤ c1) (h : qaS.f k l0 l1 = some (r1, r2)) :
  Calls Try.prog 22 #[.slice A0 l0.length c0, .slice A1 l1.length c1] w fun e w' => ∃ v0_, e = .returned (.tuple #[v0_, .int .i64 r2]) ∧ Kd.V k25 25 w' w.heap.size (fun k_ => w.heap.size ≤ k_) v0_ r1 ∧ Below w.heap.size w w' := by
 refine (callsIn_wide (n := 3)).1 ?_
 have hmix : Try.prog.follows .mixedOrders = true := by kernel_rfl
 unfold qaS.f at h
 obtain ⟨b0, hb0, h⟩ := Option.bind_eq_some_iff.1 h
 obtain ⟨b1, hb1, h⟩ := Option.bind_eq_some_iff.1 h
 obtain ⟨ok, hok, h⟩ := Option.bind_eq_some_iff.1 h
 have HR0 := qaa.mk hr0
 have HC0 := qaa.mk hc0
 have HR1 := qaa.mk hr1
 have HC1 := qaa.mk hc1
 have HH := qaa.mk h
 have HB0 := qaa.mk hb0
 have HB1 := qaa.mk hb1
 have HOK := qaa.mk hok
 clear hr0 hc0 hr1 hc1 h hb0 hb1 hok
 refine callsIn_of_wp_marks Try.func22 rfl trivial ?_ rfl
 simp only [Try.ntmps22, List.size_toArray, List.length_cons, List.length_nil, Nat.reduceAdd, Nat.reduceSub, Array.replicate_succ, Array.replicate_zero, List.push_toArray, List.append_toArray, List.nil_append, List.cons_append]
 gi_wp2
 apply qpV
 have HX := qaa.mk (show qfE w A0 c0 l0.length A1 c1 l1.length ((w.alloc (.cells #[.slice A0 l0.length c0] 31)).alloc (.cells #[.slice A1 l1.length c1] 32)) from
  ⟨(Below.heap_alloc _ _ _ (by simp)).trans (World.alloc_heap_new w _), by have := World.alloc_heap_new (w.alloc (.cells #[.slice A0 l0.length c0] 31)) (.cells #[.slice A1 l1.length c1] 32); rwa [World.size_alloc] at this, qag (qag (Below.refl _ _) _) _⟩)
 have HLEN := qaa.mk (show ok = true → 1 ≤ l0.length ∧ l0.length ≤ 3 from fun e => by
  have h1 := HOK.out
  rw [e] at h1
  have h2 := qo7 h1
  have h3 := HB1.out
  rw [h2] at h3
  have h4 : b0 = true := by
   cases b0 with
   | true => rfl
   | false => simp at h3
  have h5 := HB0.out
  rw [h4] at h5
  have h6 := qox h5
  omega)
 gi_upto_region 1 with (fail)
 gi_cut [6] from 19 (fun v6 wc => v6 = .bool b1 ∧ qaa (qfE w A0 c0 l0.length A1 c1 l1.length wc))
 case first =>
  cases b0 with
  | false =>
   obtain rfl : b1 = false := by have := HB1.out; simpa using this.symm
   gi_wp2_with (first | (refine ⟨trivial, (callsIn_wide.2 (qaD.calls _ _ _ false _ HB0.out)).mono ?_⟩; rintro e w' ⟨rfl, ⟨nd, rfl⟩⟩) | (refine ⟨trivial, ?_⟩))
   gi_meet
   case rel => exact ⟨rfl, ⟨HX.out.drew nd⟩⟩
  | true =>
   have HA1 := qaa.mk (show qa0.f k l1 (l1.length : Int) = some b1 from HB1.out)
   gi_wp2_with (first | (refine ⟨trivial, (callsIn_wide.2 (qaD.calls _ _ _ true _ HB0.out)).mono ?_⟩; rintro e w' ⟨rfl, ⟨nd, rfl⟩⟩) | (refine ⟨trivial, (callsIn_wide.2 (qa0.calls k A1 c1 l1 (l1.length : Int) b1 _ ?hx HC1.out HA1.out)).mono ?_⟩; (case hx => exact Kd.C_below HR1.out (HX.out.drew nd).below); rintro e w' ⟨rfl, hbb⟩))
   gi_meet
   case rel => exact ⟨rfl, ⟨(HX.out.drew nd).keep hbb⟩⟩
 case rest =>
  clear HX HB0 HB1
  obtain ⟨rfl, HX⟩ := hcut
  have hcz2 : wc.cell? ⟨w.heap.size, 0, none⟩ = some (.slice A0 l0.length c0) := (qai HX.out.b2 0).trans rfl
  gi_wp2
  gi_loopg [6, 30] l0.length (fun d v6 v30 wr => ∃ (b : Bool) (i : Nat), v6 = .bool b ∧ v30 = .int .i64 (i : Int) ∧ qaa (i + d = l0.length) ∧ qaa (qaS.sg k (l1.length : Int) (l0.drop i) b = some ok) ∧ qaa (qfE w A0 c0 l0.length A1 c1 l1.length wr))
  case atStart => exact ⟨b1, 0, rfl, rfl, ⟨by omega⟩, ⟨by simpa using HOK.out⟩, HX⟩
  case round =>
   clear hcz2 HX
   obtain ⟨b, i, rfl, rfl, HD, HS, HX⟩ := hrel
   have hmx : l0.length ≤ 9223372036854775807 := HR0.out.2.1
   by_cases hi : i < l0.length
   ·
    obtain ⟨d, rfl⟩ : ∃ d, gk = d + 1 := ⟨gk - 1, by have := HD.out; omega⟩; have hcz3 : wr.cell? ⟨w.heap.size + 1, 0, none⟩ = some (.slice A1 l1.length c1) := (qai HX.out.b3 0).trans rfl; obtain ⟨ad, A2, c2, ea, hx, hc2, hr2⟩ := qpt HR0.out (i : Int) (by omega) (by omega); subst ea; replace hx := (HX.out.below.cell (World.block_lt_of_cell? w _ hx)).trans hx; rw [Int.toNat_natCast] at hx
    have hdrop : l0.drop i = qdp l0 i :: l0.drop (i + 1) := by
     rw [List.drop_eq_getElem_cons hi]
     congr 1
     simp [qdp, List.getD_eq_getElem?_getD, List.getElem?_eq_getElem hi]
    have HS2 := qaa.mk (show qaS.sg k (l1.length : Int) (qdp l0 i :: l0.drop (i + 1)) b = some ok by rw [← hdrop]; exact HS.out); have HCA := qaa.mk hr2; have HC2 := qaa.mk hc2; clear hdrop hr2 hc2
    cases b with
    | false =>
     gi_wp2_with (refine ⟨trivial, ?_⟩)
     gi_roundg d
     case measure => omega
     case rel => exact ⟨false, i + 1, rfl, by simp, ⟨by have := HD.out; omega⟩, ⟨by have := HS2.out; simpa [qaS.sg] using this⟩, HX⟩
    | true =>
     obtain ⟨b3, h3, h4⟩ := Option.bind_eq_some_iff.1 (show (qa0.f k (qdp l0 i) (l1.length : Int)).bind (fun b => qaS.sg k (l1.length : Int) (l0.drop (i + 1)) b) = some ok by have := HS2.out; simpa [qaS.sg] using this); have HS3 := qaa.mk h3; have HS4 := qaa.mk h4; clear h3 h4
     gi_wp2_with (refine ⟨trivial, (callsIn_wide.2 (qa0.calls k A2 c2 (qdp l0 i) (l1.length : Int) b3 _ ?hx HC2.out HS3.out)).mono ?_⟩; (case hx => exact Kd.C_below HCA.out HX.out.below); rintro e w' ⟨rfl, hbb⟩)
     gi_roundg d
     case measure => omega
     case rel => exact ⟨b3, i + 1, rfl, by simp, ⟨by have := HD.out; omega⟩, ⟨HS4.out⟩, ⟨HX.out.keep hbb⟩⟩
   ·
    have HE := qaa.mk (show some b = some ok by have := HS.out; rw [List.drop_eq_nil_of_le (by omega)] at this; exact this); clear HS; obtain rfl : b = ok := Option.some.inj HE.out; clear HE
    cases b with
    | false =>
     have HF := HH.out; rw [if_neg (by decide)] at HF
     injection HF with HF
     injection HF with e1 e2
     subst e1 e2
     gi_wp2
     simp only [Exit.noGoto]; refine ⟨_, results_tmp2 rfl _ _ _, ?_⟩
     exact ⟨_, rfl, Kd.V_nil _ _ _ _ _, HX.out.below⟩
    | true =>
     have HF := HH.out; rw [if_pos rfl] at HF; have HF := qaa.mk HF; clear HH
     gi_wp2
     apply wpIn_label
     obtain ⟨lb, hlb⟩ : ∃ lb, wr.heap.size = lb := ⟨_, rfl⟩; obtain ⟨W0, hW0⟩ : ∃ W0, ((wr.alloc (.cells #[.func (.func 68) #[] #[]] 104)).alloc (.cells #[.func (.func 69) #[] #[]] 104)).alloc (.cells #[.slice none 0 0] 32) = W0 := ⟨_, rfl⟩
     have hwlb : w.heap.size ≤ lb := by rw [← hlb]; exact HX.out.below.size
     have qrC : w.heap.size + 2 ≤ lb := by have := qaN HX.out.b3; omega
     have hs0 : W0.heap.size = lb + 3 := by rw [← hW0, ← hlb]; simp
     have hB0 : Below wr.heap.size wr W0 := by rw [← hW0]; exact qag (qag (qag (Below.refl _ _) _) _) _
     have hX0 := HX.out.keep hB0
     have hlo0 : W0.heap[lb]? = some (.cells #[.func (.func 68) #[] #[]] 104 (0, 0)) := by
      rw [← hW0, ← hlb]; exact (Below.heap_alloc _ _ _ (by simp; omega)).trans ((Below.heap_alloc _ _ _ (by simp)).trans (World.alloc_heap_new wr _))
     have hhi0 : W0.heap[lb + 1]? = some (.cells #[.func (.func 69) #[] #[]] 104 (0, 0)) := by
      rw [← hW0, ← hlb]; refine (Below.heap_alloc _ _ _ (by simp)).trans ?_; have := World.alloc_heap_new (wr.alloc (.cells #[.func (.func 68) #[] #[]] 104)) (.cells #[.func (.func 69) #[] #[]] 104); rwa [World.size_alloc] at this
     have hob0 : W0.heap[lb + 2]? = some (.cells #[.slice none 0 0] 32 (0, 0)) := by
      rw [← hW0, ← hlb]; have := World.alloc_heap_new ((wr.alloc (.cells #[.func (.func 68) #[] #[]] 104)).alloc (.cells #[.func (.func 69) #[] #[]] 104)) (.cells #[.slice none 0 0] 32); rwa [World.size_alloc, World.size_alloc] at this
     rw [hW0, show wr.heap.size + 1 + 1 = lb + 2 by omega, show wr.heap.size + 1 = lb + 1 by omega, hlb]; have HI0 := qaa.mk (show ShI w k l0 l1 A0 c0 A1 c1 lb (lb + 1) (lb + 2) (lb + 3) [] W0 from ⟨⟨_, [], rfl, hob0, Kd.R_nil _ _ _ _ _, by simp⟩, hX0, hlo0, hhi0, by omega⟩); have hcz2 : W0.cell? ⟨w.heap.size, 0, none⟩ = some (.slice A0 l0.length c0) := (qai hX0.b2 0).trans rfl; clear hX0 hlo0 hhi0 hob0 hB0 HX hW0
     gi_wp2_with (refine ⟨trivial, (callsIn_wide.2 (qqd _ _)).mono ?_⟩; rintro e w' ⟨rfl, rfl⟩)
     obtain ⟨hR1, hR3⟩ := (by simpa using HLEN.out)
     have hrb : (W0.alloc (.cells #[.int .i64 (l0.length : Int)] 3)).heap[lb + 3]? = some (.cells #[.int .i64 (l0.length : Int)] 3 (0, 0)) := by
      rw [← hs0]; exact World.alloc_heap_new W0 _
     have hs1 : (W0.alloc (.cells #[.int .i64 (l0.length : Int)] 3)).heap.size = lb + 4 := by simp; omega
     refine qol (p := 49) (q := 12) (gf := 95) (lb := #[.pointer (some ⟨lb + 3, 0, none⟩)]) (B := lb + 3) (xs := qf4 (l0.length - 1) 100 []) rfl (enters_of Try.func95 (by kernel_rfl) rfl)
      (qnj _ l0.length (lb + 3) (lb + 3) _ hR1 hR3 (Nat.le_refl _) hrb) (Below.refl _ _) (ShI w k l0 l1 A0 c0 A1 c1 lb (lb + 1) (lb + 2) (lb + 3)) ?hI ?hI0 ?h0 ?assign ?body ?done
     case hI => exact fun pre W1 W2 row h hg hr => h.step hg (fun r e => ⟨by have := (hr r e).1; omega, (hr r e).2⟩)
     case hI0 =>
      intro W1 W2 row h hg hr; obtain ⟨v, out, h1, h2, h3, h4⟩ := h.ex; obtain rfl : [] = out := Option.some.inj h1; obtain rfl := h4.2 rfl
      have kp : ∀ g o, g < lb + 4 → W1.heap[g]? = some o → W2.heap[g]? = some o := fun g o hg2 ho => (hg.block g (Array.getElem?_eq_some_iff.1 ho).1 (fun e => by have := hr g e.symm; omega)).trans ho
      exact ⟨⟨_, [], rfl, kp _ _ (by omega) h2, Kd.R_nil _ _ _ _ _, by simp⟩, ⟨kp _ _ (by omega) h.bx.b2, kp _ _ (by omega) h.bx.b3, h.bx.below.grown hg h.bx.below.size (fun r e => by have := hr r e; omega)⟩, kp _ _ (by omega) h.lo, kp _ _ (by omega) h.hi, Nat.le_trans h.sz hg.size⟩
     case h0 => exact HI0.out.step (World.grownBy_alloc _ _ none) (fun r e => by cases e)
     case assign =>
      intro l v W K hK
      gi_wp2
      exact hK
     case body =>
      intro l pre v x W hI hpre hrow
      have hlen : ∀ y ∈ pre ++ [x], y.length = l0.length := fun y hy => by
       have := qnf _ _ _ _ (hpre.subset hy)
       simp at this
       omega
      have hxl : x.length = l0.length := hlen x (by simp); obtain ⟨Ax, cx, rfl, hcx, hCx⟩ := Kd.R_reads hrow; obtain ⟨vo, out, h1, h2, h3, h4⟩ := hI.ex; have hout : out = [] ∨ out.length = l0.length := qoC pre [] out (fun y hy => hlen y (by simp [hy])) (.inl rfl) h1
      obtain ⟨bb, hag, hst⟩ : ∃ bb, qaS.ag k l0 l1 x l1.length 0 = some bb ∧ qaS.all k l0 l1 (pre ++ [x]) [] = some (if bb then qaS.wide (if out = [] then x.map (fun n => ⟨n, n⟩) else out) x else out) := by
       obtain ⟨ys, hys⟩ := hpre; have hF := HF.out; rw [← hys, qil, qil, h1] at hF
       cases hs : qaS.st k l0 l1 out x with
       | none => simp [qaS.all, hs] at hF
       | some o =>
        obtain ⟨bb, hb1, hb2⟩ := Option.map_eq_some_iff.1 hs; refine ⟨bb, hb1, ?_⟩; rw [qil, h1]; simp only [Option.bind_some, qaS.all, hs, ← hb2]
      have HI := qaa.mk hI; have HAG := qaa.mk hag; have HST := qaa.mk hst; have HOUT := qaa.mk hout; have HROW := qaa.mk hrow; have HCX := qaa.mk hCx; have HN := qaa.mk h4; have HR3 := qaa.mk h3; have HBO := qaa.mk h2; have HALL := qaa.mk h1
      have hmxx : x.length ≤ 3 := by omega
      have HXL := qaa.mk hxl; clear hI hag hst hout hrow hCx h4 h3 h2 h1 HF hpre hlen hxl; simp only [List.setIfInBounds_toArray, List.set_cons_succ, List.set_cons_zero]; have hcz3 : W.cell? ⟨w.heap.size + 1, 0, none⟩ = some (.slice A1 l1.length c1) := (qai HI.out.bx.b3 0).trans rfl; have hmx1 : l1.length ≤ 9223372036854775807 := HR1.out.2.1
      gi_wp2
      gi_loopg [52] l1.length (fun d v52 wr => ∃ (i : Nat), v52 = .int .i64 (i : Int) ∧ qaa (i + d = l1.length) ∧ qaa (qaS.ag k l0 l1 x d (i : Int) = some bb) ∧ qaa (Below W.heap.size W wr))
      case atStart => exact ⟨0, rfl, ⟨by omega⟩, HAG, ⟨Below.refl _ _⟩⟩
      case round =>
       obtain ⟨i, rfl, HD, HA, HB⟩ := hrel
       by_cases hi : i < l1.length
       ·
        obtain ⟨d, rfl⟩ : ∃ d, gk = d + 1 := ⟨gk - 1, by have := HD.out; omega⟩; obtain ⟨ad, ea, hx0, hx1⟩ := qhC HR1.out (i : Int) (by omega) (by omega); subst ea; replace hx0 := (HI.out.bx.below.cell (World.block_lt_of_cell? w _ hx0)).trans hx0; replace hx1 := (HI.out.bx.below.cell (World.block_lt_of_cell? w _ hx1)).trans hx1; replace hx0 := (HB.out.cell (World.block_lt_of_cell? W _ hx0)).trans hx0; replace hx1 := (HB.out.cell (World.block_lt_of_cell? W _ hx1)).trans hx1; rw [Int.toNat_natCast] at hx0 hx1; have hu25 := Try.underlying25
        gi_wp2
        have hww : w.heap.size ≤ W.heap.size := HI.out.bx.below.size; have hlbW : lb + 3 ≤ W.heap.size := HI.out.sz; have hWr : W.heap.size ≤ wr.heap.size := HB.out.size; obtain ⟨We, hWe⟩ : ∃ We, wr.alloc (.cells #[.int .i64 (qbG l1 (i : Int)).f0, .int .i64 (qbG l1 (i : Int)).f1] 25) = We := ⟨_, rfl⟩
        have hbe : Below wr.heap.size wr We := by rw [← hWe]; exact qag (Below.refl _ _) _
        have h14 : We.heap[wr.heap.size]? = some (.cells #[.int .i64 (qbG l1 (i : Int)).f0, .int .i64 (qbG l1 (i : Int)).f1] 25 (0, 0)) := by rw [← hWe]; exact World.alloc_heap_new wr _
        have hse : We.heap.size = wr.heap.size + 1 := by rw [← hWe]; simp
        have HBe := qaa.mk (show Below W.heap.size W We from HB.out.trans (hbe.mono hWr))
        have hSb : ∀ z : World, Below We.heap.size We z → (fun z => z.cell? ⟨lb, 0, none⟩ = some (.func (.func 68) #[] #[]) ∧ z.cell? ⟨lb + 1, 0, none⟩ = some (.func (.func 69) #[] #[]) ∧ z.cell? ⟨w.heap.size, 0, none⟩ = some (.slice A0 l0.length c0) ∧ z.cell? ⟨wr.heap.size, 0, none⟩ = some (.int .i64 (qbG l1 (i : Int)).f0) ∧ z.cell? ⟨wr.heap.size, 1, none⟩ = some (.int .i64 (qbG l1 (i : Int)).f1)) z := fun z hz => by
         have hbz : Below W.heap.size W z := HBe.out.trans (hz.mono (by omega))
         exact ⟨(qai (qar HI.out.lo hbz) 0).trans rfl, (qai (qar HI.out.hi hbz) 0).trans rfl, (qai (qar HI.out.bx.b2 hbz) 0).trans rfl, (qai (qar h14 hz) 0).trans rfl, (qai (qar h14 hz) 1).trans rfl⟩
        have hS : (fun z => z.cell? ⟨lb, 0, none⟩ = some (.func (.func 68) #[] #[]) ∧ z.cell? ⟨lb + 1, 0, none⟩ = some (.func (.func 69) #[] #[]) ∧ z.cell? ⟨w.heap.size, 0, none⟩ = some (.slice A0 l0.length c0) ∧ z.cell? ⟨wr.heap.size, 0, none⟩ = some (.int .i64 (qbG l1 (i : Int)).f0) ∧ z.cell? ⟨wr.heap.size, 1, none⟩ = some (.int .i64 (qbG l1 (i : Int)).f1)) We.drew := hSb We.drew (qbC (Below.refl _ _)); rw [hWe]; clear hx0 hx1 hcz3
        obtain ⟨lo, hlo1, hlo2⟩ := Option.bind_eq_some_iff.1 (show (qbb.f k 0 x l0 (i : Int)).bind (fun lo => if wrap64 (100 * (qbG l1 (i : Int)).f1) < lo then some false else
   (qa5.f k 0 x l0 (i : Int)).bind fun hi => if hi < wrap64 (100 * (qbG l1 (i : Int)).f0) then some false else qaS.ag k l0 l1 x d ((i : Int) + 1)) = some bb from HA.out)
        have HLO := qaa.mk hlo1; clear hlo1 HA; obtain ⟨qh, hqh⟩ : ∃ q, IntKind.i64.wrap (100 * (qbG l1 (i : Int)).f1) = q := ⟨_, rfl⟩; obtain ⟨ql, hql⟩ : ∃ q, IntKind.i64.wrap (100 * (qbG l1 (i : Int)).f0) = q := ⟨_, rfl⟩; rw [← qaB, ← qaB, hqh, hql] at hlo2
        by_cases cc : qh < lo
        ·
         obtain rfl : false = bb := by rw [if_pos cc] at hlo2; exact Option.some.inj hlo2
         clear hlo2; have ccb : decide (qh < lo) = true := decide_eq_true cc; clear cc; refine qhH hmix ?hno1 (by kernel_rfl) ?_
         case hno1 => rintro ⟨a, w, h⟩; exact h
         refine wpAny_of_held (S := (fun z => z.cell? ⟨lb, 0, none⟩ = some (.func (.func 68) #[] #[]) ∧ z.cell? ⟨lb + 1, 0, none⟩ = some (.func (.func 69) #[] #[]) ∧ z.cell? ⟨w.heap.size, 0, none⟩ = some (.slice A0 l0.length c0) ∧ z.cell? ⟨wr.heap.size, 0, none⟩ = some (.int .i64 (qbG l1 (i : Int)).f0) ∧ z.cell? ⟨wr.heap.size, 1, none⟩ = some (.int .i64 (qbG l1 (i : Int)).f1))) _ _ _ _ ?_; change wpAnyH _ _ _ _ _ _ _ _ (World.drew _); refine wpAnyH_take (i := 0) (oi := { dst := some 57, op := _, type := _, pos := _, after := _, guard := _ }) (v := ?vx2) rfl (by kernel_rfl) (by kernel_rfl) (by kernel_rfl) (fun _ _ _ h => h) (Or.inl ⟨by rfl, ?hyx2⟩) hS ?restx2
         case hyx2 =>
          intro z hz; obtain ⟨z1, z2, z3, z4, z5⟩ := hz; go_simp
          try (with_reducible rfl)
         simp only [qaq, qam, qap, qao, qan]; refine wpAnyH_take (i := 1) (oi := { dst := some 58, op := _, type := _, pos := _, after := _, guard := _ }) (v := ?vx3) rfl (by kernel_rfl) (by kernel_rfl) (by kernel_rfl) (fun _ _ _ h => h) (Or.inl ⟨by rfl, ?hyx3⟩) hS ?restx3
         case hyx3 =>
          intro z hz; obtain ⟨z1, z2, z3, z4, z5⟩ := hz; go_simp
          try (with_reducible rfl)
         simp only [qaq, qam, qap, qao, qan]; refine wpAnyH_take (i := 2) (oi := { dst := some 59, op := _, type := _, pos := _, after := _, guard := _ }) (v := ?vx4) rfl (by kernel_rfl) (by kernel_rfl) (by kernel_rfl) (fun _ _ _ h => h) (Or.inl ⟨by rfl, ?hyx4⟩) hS ?restx4
         case hyx4 =>
          intro z hz; obtain ⟨z1, z2, z3, z4, z5⟩ := hz; go_simp
          try (with_reducible rfl)
         simp only [qaq, qam, qap, qao, qan]; refine wpAnyH_take (i := 3) (oi := { dst := some 60, op := _, type := _, pos := _, after := _, guard := _ }) (v := ?vx5) rfl (by kernel_rfl) (by kernel_rfl) (by kernel_rfl) (fun _ _ _ h => h) (Or.inl ⟨by rfl, ?hyx5⟩) hS ?restx5
         case hyx5 =>
          intro z hz; obtain ⟨z1, z2, z3, z4, z5⟩ := hz; go_simp
          try (with_reducible rfl)
         simp only [qaq, qam, qap, qao, qan]; refine wpAnyH_take (i := 5) (oi := { dst := some 62, op := _, type := _, pos := _, after := _, guard := _ }) (v := ?vx6) rfl (by kernel_rfl) (by kernel_rfl) (by kernel_rfl) (fun _ _ _ h => h) (Or.inl ⟨by rfl, ?hyx6⟩) hS ?restx6
         case hyx6 =>
          intro z hz; obtain ⟨z1, z2, z3, z4, z5⟩ := hz; go_simp
          try (with_reducible rfl)
         simp only [qaq, qam, qap, qao, qan]; refine wpAnyH_take (i := 6) (oi := { dst := some 63, op := _, type := _, pos := _, after := _, guard := _ }) (v := ?vx7) rfl (by kernel_rfl) (by kernel_rfl) (by kernel_rfl) (fun _ _ _ h => h) (Or.inl ⟨by rfl, ?hyx7⟩) hS ?restx7
         case hyx7 =>
          intro z hz; obtain ⟨z1, z2, z3, z4, z5⟩ := hz; go_simp
          try (with_reducible rfl)
         simp only [qaq, qam, qap, qao, qan]; refine wpAnyH_take (i := 7) (oi := { dst := some 64, op := _, type := _, pos := _, after := _, guard := _ }) (v := ?vx8) rfl (by kernel_rfl) (by kernel_rfl) (by kernel_rfl) (fun _ _ _ h => h) (Or.inl ⟨by rfl, ?hyx8⟩) hS ?restx8
         case hyx8 =>
          intro z hz; obtain ⟨z1, z2, z3, z4, z5⟩ := hz; go_simp
          try (with_reducible rfl)
         simp only [qaq, qam, qap, qao, qan]; refine wpAnyH_ready (rs := [4]) (by kernel_rfl) (by simp) ?_; refine AllReadyH.cons (o := { dst := some 61, op := .call { callee := .value (.func 71), args := #[.tmp 57, .tmp 58, .tmp 59, .tmp 60], argTypes := #[104, 37, 31, 3] }, type := 3, pos := _, after := _, guard := none }) rfl (fun K hK => ?_) AllReadyH.nil; refine qd4 Try.func71 (by kernel_rfl) rfl #[.agg #[.func (.func 68) #[] #[]], .slice Ax x.length cx, .slice A0 l0.length c0, .int .i64 (i : Int)] (by rfl) rfl rfl (by (try simp only [List.map_toArray, List.map_cons, List.map_nil]); first | done | rfl) ?_; refine (qbb.calls k 0 Ax cx x A0 c0 l0 (i : Int) lo _ ?q1w18 hcx ?q2w18 HC0.out HLO.out).mono ?_
         case q1w18 => exact Kd.C_below HCX.out (qbC HBe.out)
         case q2w18 => exact Kd.C_below HR0.out (HI.out.bx.below.trans ((qbC HBe.out).mono hww))
         rintro e w1 ⟨rfl, hbw1⟩; refine ⟨_, rfl, ?_⟩; have HBw1 := qaa.mk (show Below W.heap.size W w1 from (qbC HBe.out).trans (hbw1.mono (qbC HBe.out).size)); have hS1 := (show _ from hSb w1 ((show Below We.heap.size We w1 from (qbC (Below.refl We.heap.size We)).trans (hbw1.mono ((qbC (Below.refl We.heap.size We)).size))))); clear hS; refine hK.out _ _ hS1 (fun hS => ?_); simp only [qaq, qam, qap, qao, qan]; refine wpAnyH_take (i := 8) (oi := { dst := some 65, op := _, type := _, pos := _, after := _, guard := _ }) (v := ?vx9) rfl (by kernel_rfl) (by kernel_rfl) (by kernel_rfl) (fun _ _ _ h => h) (Or.inl ⟨by rfl, ?hyx9⟩) hS ?restx9
         case hyx9 =>
          intro z hz; obtain ⟨z1, z2, z3, z4, z5⟩ := hz; go_simp
          try (with_reducible rfl)
         simp only [qaq, qam, qap, qao, qan]; refine wpAnyH_take (i := 9) (oi := { dst := some 66, op := _, type := _, pos := _, after := _, guard := _ }) (v := ?vx10) rfl (by kernel_rfl) (by kernel_rfl) (by kernel_rfl) (fun _ _ _ h => h) (Or.inl ⟨by rfl, ?hyx10⟩) hS ?restx10
         case hyx10 =>
          intro z hz; obtain ⟨z1, z2, z3, z4, z5⟩ := hz; go_simp
          try (with_reducible rfl)
         simp only [qaq, qam, qap, qao, qan]; refine wpAnyH_take (i := 10) (oi := { dst := some 67, op := _, type := _, pos := _, after := _, guard := _ }) (v := undef) rfl (by kernel_rfl) (by kernel_rfl) (by kernel_rfl) (fun _ _ _ h => h) (Or.inr ⟨by rfl, rfl⟩) hS ?_; simp only [qaq, qam, qap, qao, qan]; refine wpAnyH_take (i := 11) (oi := { dst := some 68, op := _, type := _, pos := _, after := _, guard := _ }) (v := undef) rfl (by kernel_rfl) (by kernel_rfl) (by kernel_rfl) (fun _ _ _ h => h) (Or.inr ⟨by rfl, rfl⟩) hS ?_; simp only [qaq, qam, qap, qao, qan]; refine wpAnyH_take (i := 12) (oi := { dst := some 69, op := _, type := _, pos := _, after := _, guard := _ }) (v := undef) rfl (by kernel_rfl) (by kernel_rfl) (by kernel_rfl) (fun _ _ _ h => h) (Or.inr ⟨by rfl, rfl⟩) hS ?_; simp only [qaq, qam, qap, qao, qan]; refine wpAnyH_take (i := 13) (oi := { dst := some 70, op := _, type := _, pos := _, after := _, guard := _ }) (v := undef) rfl (by kernel_rfl) (by kernel_rfl) (by kernel_rfl) (fun _ _ _ h => h) (Or.inr ⟨by rfl, rfl⟩) hS ?_; simp only [qaq, qam, qap, qao, qan]; refine wpAnyH_take (i := 14) (oi := { dst := some 71, op := _, type := _, pos := _, after := _, guard := _ }) (v := undef) rfl (by kernel_rfl) (by kernel_rfl) (by kernel_rfl) (fun _ _ _ h => h) (Or.inr ⟨by rfl, rfl⟩) hS ?_; simp only [qaq, qam, qap, qao, qan]; refine wpAnyH_take (i := 15) (oi := { dst := some 72, op := _, type := _, pos := _, after := _, guard := _ }) (v := undef) rfl (by kernel_rfl) (by kernel_rfl) (by kernel_rfl) (fun _ _ _ h => h) (Or.inr ⟨by rfl, rfl⟩) hS ?_; simp only [qaq, qam, qap, qao, qan]; refine wpAnyH_take (i := 16) (oi := { dst := some 73, op := _, type := _, pos := _, after := _, guard := _ }) (v := undef) rfl (by kernel_rfl) (by kernel_rfl) (by kernel_rfl) (fun _ _ _ h => h) (Or.inr ⟨by rfl, rfl⟩) hS ?_; simp only [qaq, qam, qap, qao, qan]; refine wpAnyH_take (i := 17) (oi := { dst := some 74, op := _, type := _, pos := _, after := _, guard := _ }) (v := undef) rfl (by kernel_rfl) (by kernel_rfl) (by kernel_rfl) (fun _ _ _ h => h) (Or.inr ⟨by rfl, rfl⟩) hS ?_; simp only [qaq, qam, qap, qao, qan]; refine wpAnyH_take (i := 18) (oi := { dst := some 75, op := _, type := _, pos := _, after := _, guard := _ }) (v := undef) rfl (by kernel_rfl) (by kernel_rfl) (by kernel_rfl) (fun _ _ _ h => h) (Or.inr ⟨by rfl, rfl⟩) hS ?_; simp only [qaq, qam, qap, qao, qan]; refine wpAnyH_take (i := 19) (oi := { dst := some 76, op := _, type := _, pos := _, after := _, guard := _ }) (v := ?vx20) rfl (by kernel_rfl) (by kernel_rfl) (by kernel_rfl) (fun _ _ _ h => h) (Or.inl ⟨by rfl, ?hyx20⟩) hS ?restx20
         case hyx20 =>
          intro z hz; obtain ⟨z1, z2, z3, z4, z5⟩ := hz; go_simp
          try (with_reducible rfl)
         simp only [qaq, qam, qap, qao, qan]; refine wpAnyH_done (by kernel_rfl) ?_ _
         gi_wp2
         exact ⟨(qfT (Bl := lb + 4) (B := lb + 3) HBw1.out).1, (qfT (Bl := lb + 4) (B := lb + 3) HBw1.out).2, HI.out.same HBw1.out (fun o ho => by rw [HST.out, ← ho, HALL.out]; rfl)⟩
        ·
         rw [if_neg cc] at hlo2; have ccb : decide (qh < lo) = false := decide_eq_false cc; clear cc; obtain ⟨hi2, hhi1, hhi2⟩ := Option.bind_eq_some_iff.1 hlo2; have HHI := qaa.mk hhi1; clear hhi1 hlo2
         by_cases dd : hi2 < ql
         ·
          obtain rfl : false = bb := by rw [if_pos dd] at hhi2; exact Option.some.inj hhi2
          clear hhi2; have ddb : decide (hi2 < ql) = true := decide_eq_true dd; clear dd; refine qhH hmix ?hno21 (by kernel_rfl) ?_
          case hno21 => rintro ⟨a, w, h⟩; exact h
          refine wpAny_of_held (S := (fun z => z.cell? ⟨lb, 0, none⟩ = some (.func (.func 68) #[] #[]) ∧ z.cell? ⟨lb + 1, 0, none⟩ = some (.func (.func 69) #[] #[]) ∧ z.cell? ⟨w.heap.size, 0, none⟩ = some (.slice A0 l0.length c0) ∧ z.cell? ⟨wr.heap.size, 0, none⟩ = some (.int .i64 (qbG l1 (i : Int)).f0) ∧ z.cell? ⟨wr.heap.size, 1, none⟩ = some (.int .i64 (qbG l1 (i : Int)).f1))) _ _ _ _ ?_; change wpAnyH _ _ _ _ _ _ _ _ (World.drew _); refine wpAnyH_take (i := 0) (oi := { dst := some 57, op := _, type := _, pos := _, after := _, guard := _ }) (v := ?vx22) rfl (by kernel_rfl) (by kernel_rfl) (by kernel_rfl) (fun _ _ _ h => h) (Or.inl ⟨by rfl, ?hyx22⟩) hS ?restx22
          case hyx22 =>
           intro z hz; obtain ⟨z1, z2, z3, z4, z5⟩ := hz; go_simp
           try (with_reducible rfl)
          simp only [qaq, qam, qap, qao, qan]; refine wpAnyH_take (i := 1) (oi := { dst := some 58, op := _, type := _, pos := _, after := _, guard := _ }) (v := ?vx23) rfl (by kernel_rfl) (by kernel_rfl) (by kernel_rfl) (fun _ _ _ h => h) (Or.inl ⟨by rfl, ?hyx23⟩) hS ?restx23
          case hyx23 =>
           intro z hz; obtain ⟨z1, z2, z3, z4, z5⟩ := hz; go_simp
           try (with_reducible rfl)
          simp only [qaq, qam, qap, qao, qan]; refine wpAnyH_take (i := 2) (oi := { dst := some 59, op := _, type := _, pos := _, after := _, guard := _ }) (v := ?vx24) rfl (by kernel_rfl) (by kernel_rfl) (by kernel_rfl) (fun _ _ _ h => h) (Or.inl ⟨by rfl, ?hyx24⟩) hS ?restx24
          case hyx24 =>
           intro z hz; obtain ⟨z1, z2, z3, z4, z5⟩ := hz; go_simp
           try (with_reducible rfl)
          simp only [qaq, qam, qap, qao, qan]; refine wpAnyH_take (i := 3) (oi := { dst := some 60, op := _, type := _, pos := _, after := _, guard := _ }) (v := ?vx25) rfl (by kernel_rfl) (by kernel_rfl) (by kernel_rfl) (fun _ _ _ h => h) (Or.inl ⟨by rfl, ?hyx25⟩) hS ?restx25
          case hyx25 =>
           intro z hz; obtain ⟨z1, z2, z3, z4, z5⟩ := hz; go_simp
           try (with_reducible rfl)
          simp only [qaq, qam, qap, qao, qan]; refine wpAnyH_take (i := 5) (oi := { dst := some 62, op := _, type := _, pos := _, after := _, guard := _ }) (v := ?vx26) rfl (by kernel_rfl) (by kernel_rfl) (by kernel_rfl) (fun _ _ _ h => h) (Or.inl ⟨by rfl, ?hyx26⟩) hS ?restx26
          case hyx26 =>
           intro z hz; obtain ⟨z1, z2, z3, z4, z5⟩ := hz; go_simp
           try (with_reducible rfl)
          simp only [qaq, qam, qap, qao, qan]; refine wpAnyH_take (i := 6) (oi := { dst := some 63, op := _, type := _, pos := _, after := _, guard := _ }) (v := ?vx27) rfl (by kernel_rfl) (by kernel_rfl) (by kernel_rfl) (fun _ _ _ h => h) (Or.inl ⟨by rfl, ?hyx27⟩) hS ?restx27
          case hyx27 =>
           intro z hz; obtain ⟨z1, z2, z3, z4, z5⟩ := hz; go_simp
           try (with_reducible rfl)
          simp only [qaq, qam, qap, qao, qan]; refine wpAnyH_take (i := 7) (oi := { dst := some 64, op := _, type := _, pos := _, after := _, guard := _ }) (v := ?vx28) rfl (by kernel_rfl) (by kernel_rfl) (by kernel_rfl) (fun _ _ _ h => h) (Or.inl ⟨by rfl, ?hyx28⟩) hS ?restx28
          case hyx28 =>
           intro z hz; obtain ⟨z1, z2, z3, z4, z5⟩ := hz; go_simp
           try (with_reducible rfl)
          simp only [qaq, qam, qap, qao, qan]; refine wpAnyH_ready (rs := [4]) (by kernel_rfl) (by simp) ?_; refine AllReadyH.cons (o := { dst := some 61, op := .call { callee := .value (.func 71), args := #[.tmp 57, .tmp 58, .tmp 59, .tmp 60], argTypes := #[104, 37, 31, 3] }, type := 3, pos := _, after := _, guard := none }) rfl (fun K hK => ?_) AllReadyH.nil; refine qd4 Try.func71 (by kernel_rfl) rfl #[.agg #[.func (.func 68) #[] #[]], .slice Ax x.length cx, .slice A0 l0.length c0, .int .i64 (i : Int)] (by rfl) rfl rfl (by (try simp only [List.map_toArray, List.map_cons, List.map_nil]); first | done | rfl) ?_; refine (qbb.calls k 0 Ax cx x A0 c0 l0 (i : Int) lo _ ?q1w128 hcx ?q2w128 HC0.out HLO.out).mono ?_
          case q1w128 => exact Kd.C_below HCX.out (qbC HBe.out)
          case q2w128 => exact Kd.C_below HR0.out (HI.out.bx.below.trans ((qbC HBe.out).mono hww))
          rintro e w1 ⟨rfl, hbw1⟩; refine ⟨_, rfl, ?_⟩; have HBw1 := qaa.mk (show Below W.heap.size W w1 from (qbC HBe.out).trans (hbw1.mono (qbC HBe.out).size)); have hS1 := (show _ from hSb w1 ((show Below We.heap.size We w1 from (qbC (Below.refl We.heap.size We)).trans (hbw1.mono ((qbC (Below.refl We.heap.size We)).size))))); clear hS; refine hK.out _ _ hS1 (fun hS => ?_); simp only [qaq, qam, qap, qao, qan]; refine wpAnyH_take (i := 8) (oi := { dst := some 65, op := _, type := _, pos := _, after := _, guard := _ }) (v := ?vx29) rfl (by kernel_rfl) (by kernel_rfl) (by kernel_rfl) (fun _ _ _ h => h) (Or.inl ⟨by rfl, ?hyx29⟩) hS ?restx29
          case hyx29 =>
           intro z hz; obtain ⟨z1, z2, z3, z4, z5⟩ := hz; go_simp
           try (with_reducible rfl)
          simp only [qaq, qam, qap, qao, qan]; refine wpAnyH_take (i := 9) (oi := { dst := some 66, op := _, type := _, pos := _, after := _, guard := _ }) (v := ?vx30) rfl (by kernel_rfl) (by kernel_rfl) (by kernel_rfl) (fun _ _ _ h => h) (Or.inl ⟨by rfl, ?hyx30⟩) hS ?restx30
          case hyx30 =>
           intro z hz; obtain ⟨z1, z2, z3, z4, z5⟩ := hz; go_simp
           try (with_reducible rfl)
          simp only [qaq, qam, qap, qao, qan]; refine wpAnyH_take (i := 10) (oi := { dst := some 67, op := _, type := _, pos := _, after := _, guard := _ }) (v := ?vx31) rfl (by kernel_rfl) (by kernel_rfl) (by kernel_rfl) (fun _ _ _ h => h) (Or.inl ⟨by rfl, ?hyx31⟩) hS ?restx31
          case hyx31 =>
           intro z hz; obtain ⟨z1, z2, z3, z4, z5⟩ := hz; go_simp
           try (with_reducible rfl)
          simp only [qaq, qam, qap, qao, qan]; refine wpAnyH_take (i := 11) (oi := { dst := some 68, op := _, type := _, pos := _, after := _, guard := _ }) (v := ?vx32) rfl (by kernel_rfl) (by kernel_rfl) (by kernel_rfl) (fun _ _ _ h => h) (Or.inl ⟨by rfl, ?hyx32⟩) hS ?restx32
          case hyx32 =>
           intro z hz; obtain ⟨z1, z2, z3, z4, z5⟩ := hz; go_simp
           try (with_reducible rfl)
          simp only [qaq, qam, qap, qao, qan]; refine wpAnyH_take (i := 12) (oi := { dst := some 69, op := _, type := _, pos := _, after := _, guard := _ }) (v := ?vx33) rfl (by kernel_rfl) (by kernel_rfl) (by kernel_rfl) (fun _ _ _ h => h) (Or.inl ⟨by rfl, ?hyx33⟩) hS ?restx33
          case hyx33 =>
           intro z hz; obtain ⟨z1, z2, z3, z4, z5⟩ := hz; go_simp
           try (with_reducible rfl)
          simp only [qaq, qam, qap, qao, qan]; refine wpAnyH_take (i := 13) (oi := { dst := some 70, op := _, type := _, pos := _, after := _, guard := _ }) (v := ?vx34) rfl (by kernel_rfl) (by kernel_rfl) (by kernel_rfl) (fun _ _ _ h => h) (Or.inl ⟨by rfl, ?hyx34⟩) hS ?restx34
          case hyx34 =>
           intro z hz; obtain ⟨z1, z2, z3, z4, z5⟩ := hz; go_simp
           try (with_reducible rfl)
          simp only [qaq, qam, qap, qao, qan]; refine wpAnyH_take (i := 15) (oi := { dst := some 72, op := _, type := _, pos := _, after := _, guard := _ }) (v := ?vx35) rfl (by kernel_rfl) (by kernel_rfl) (by kernel_rfl) (fun _ _ _ h => h) (Or.inl ⟨by rfl, ?hyx35⟩) hS ?restx35
          case hyx35 =>
           intro z hz; obtain ⟨z1, z2, z3, z4, z5⟩ := hz; go_simp
           try (with_reducible rfl)
          simp only [qaq, qam, qap, qao, qan]; refine wpAnyH_take (i := 16) (oi := { dst := some 73, op := _, type := _, pos := _, after := _, guard := _ }) (v := ?vx36) rfl (by kernel_rfl) (by kernel_rfl) (by kernel_rfl) (fun _ _ _ h => h) (Or.inl ⟨by rfl, ?hyx36⟩) hS ?restx36
          case hyx36 =>
           intro z hz; obtain ⟨z1, z2, z3, z4, z5⟩ := hz; go_simp
           try (with_reducible rfl)
          simp only [qaq, qam, qap, qao, qan]; refine wpAnyH_take (i := 17) (oi := { dst := some 74, op := _, type := _, pos := _, after := _, guard := _ }) (v := ?vx37) rfl (by kernel_rfl) (by kernel_rfl) (by kernel_rfl) (fun _ _ _ h => h) (Or.inl ⟨by rfl, ?hyx37⟩) hS ?restx37
          case hyx37 =>
           intro z hz; obtain ⟨z1, z2, z3, z4, z5⟩ := hz; go_simp
           try (with_reducible rfl)
          simp only [qaq, qam, qap, qao, qan]; have hbX := (qbC (Below.refl We.heap.size We)).trans (hbw1.mono (Nat.le_refl We.heap.size)); refine wpAnyH_ready (rs := [14]) (by kernel_rfl) (by simp) ?_; refine AllReadyH.cons (o := { dst := some 71, op := .call { callee := .value (.func 71), args := #[.tmp 67, .tmp 68, .tmp 69, .tmp 70], argTypes := #[104, 37, 31, 3] }, type := 3, pos := _, after := _, guard := some (9, false) }) rfl (fun K hK => ?_) AllReadyH.nil; refine qd4 Try.func71 (by kernel_rfl) rfl #[.agg #[.func (.func 69) #[] #[]], .slice Ax x.length cx, .slice A0 l0.length c0, .int .i64 (i : Int)] (by rfl) rfl rfl (by (try simp only [List.map_toArray, List.map_cons, List.map_nil]); first | done | rfl) ?_; refine (qa5.calls k 0 Ax cx x A0 c0 l0 (i : Int) hi2 _ ?q1w237 hcx ?q2w237 HC0.out HHI.out).mono ?_
          case q1w237 => exact Kd.C_below HCX.out HBw1.out
          case q2w237 => exact Kd.C_below HR0.out (HI.out.bx.below.trans (HBw1.out.mono hww))
          rintro e w2 ⟨rfl, hbw2⟩; refine ⟨_, rfl, ?_⟩; have HBw2 := qaa.mk (show Below W.heap.size W w2 from HBw1.out.trans (hbw2.mono HBw1.out.size)); have hS1 := (show _ from hSb w2 ((show Below We.heap.size We w2 from hbX.trans (hbw2.mono (hbX.size))))); clear hS; refine hK.out _ _ hS1 (fun hS => ?_); simp only [qaq, qam, qap, qao, qan]; refine wpAnyH_take (i := 18) (oi := { dst := some 75, op := _, type := _, pos := _, after := _, guard := _ }) (v := ?vx38) rfl (by kernel_rfl) (by kernel_rfl) (by kernel_rfl) (fun _ _ _ h => h) (Or.inl ⟨by rfl, ?hyx38⟩) hS ?restx38
          case hyx38 =>
           intro z hz; obtain ⟨z1, z2, z3, z4, z5⟩ := hz; go_simp
           try (with_reducible rfl)
          simp only [qaq, qam, qap, qao, qan]; refine wpAnyH_take (i := 19) (oi := { dst := some 76, op := _, type := _, pos := _, after := _, guard := _ }) (v := ?vx39) rfl (by kernel_rfl) (by kernel_rfl) (by kernel_rfl) (fun _ _ _ h => h) (Or.inl ⟨by rfl, ?hyx39⟩) hS ?restx39
          case hyx39 =>
           intro z hz; obtain ⟨z1, z2, z3, z4, z5⟩ := hz; go_simp
           try (with_reducible rfl)
          simp only [qaq, qam, qap, qao, qan]; refine wpAnyH_done (by kernel_rfl) ?_ _
          gi_wp2
          exact ⟨(qfT (Bl := lb + 4) (B := lb + 3) HBw2.out).1, (qfT (Bl := lb + 4) (B := lb + 3) HBw2.out).2, HI.out.same HBw2.out (fun o ho => by rw [HST.out, ← ho, HALL.out]; rfl)⟩
         ·
          rw [if_neg dd] at hhi2; have HA2 := qaa.mk hhi2; have ddb : decide (hi2 < ql) = false := decide_eq_false dd; clear dd hhi2; refine qhH hmix ?hno40 (by kernel_rfl) ?_
          case hno40 => rintro ⟨a, w, h⟩; exact h
          refine wpAny_of_held (S := (fun z => z.cell? ⟨lb, 0, none⟩ = some (.func (.func 68) #[] #[]) ∧ z.cell? ⟨lb + 1, 0, none⟩ = some (.func (.func 69) #[] #[]) ∧ z.cell? ⟨w.heap.size, 0, none⟩ = some (.slice A0 l0.length c0) ∧ z.cell? ⟨wr.heap.size, 0, none⟩ = some (.int .i64 (qbG l1 (i : Int)).f0) ∧ z.cell? ⟨wr.heap.size, 1, none⟩ = some (.int .i64 (qbG l1 (i : Int)).f1))) _ _ _ _ ?_; change wpAnyH _ _ _ _ _ _ _ _ (World.drew _); refine wpAnyH_take (i := 0) (oi := { dst := some 57, op := _, type := _, pos := _, after := _, guard := _ }) (v := ?vx41) rfl (by kernel_rfl) (by kernel_rfl) (by kernel_rfl) (fun _ _ _ h => h) (Or.inl ⟨by rfl, ?hyx41⟩) hS ?restx41
          case hyx41 =>
           intro z hz; obtain ⟨z1, z2, z3, z4, z5⟩ := hz; go_simp
           try (with_reducible rfl)
          simp only [qaq, qam, qap, qao, qan]; refine wpAnyH_take (i := 1) (oi := { dst := some 58, op := _, type := _, pos := _, after := _, guard := _ }) (v := ?vx42) rfl (by kernel_rfl) (by kernel_rfl) (by kernel_rfl) (fun _ _ _ h => h) (Or.inl ⟨by rfl, ?hyx42⟩) hS ?restx42
          case hyx42 =>
           intro z hz; obtain ⟨z1, z2, z3, z4, z5⟩ := hz; go_simp
           try (with_reducible rfl)
          simp only [qaq, qam, qap, qao, qan]; refine wpAnyH_take (i := 2) (oi := { dst := some 59, op := _, type := _, pos := _, after := _, guard := _ }) (v := ?vx43) rfl (by kernel_rfl) (by kernel_rfl) (by kernel_rfl) (fun _ _ _ h => h) (Or.inl ⟨by rfl, ?hyx43⟩) hS ?restx43
          case hyx43 =>
           intro z hz; obtain ⟨z1, z2, z3, z4, z5⟩ := hz; go_simp
           try (with_reducible rfl)
          simp only [qaq, qam, qap, qao, qan]; refine wpAnyH_take (i := 3) (oi := { dst := some 60, op := _, type := _, pos := _, after := _, guard := _ }) (v := ?vx44) rfl (by kernel_rfl) (by kernel_rfl) (by kernel_rfl) (fun _ _ _ h => h) (Or.inl ⟨by rfl, ?hyx44⟩) hS ?restx44
          case hyx44 =>
           intro z hz; obtain ⟨z1, z2, z3, z4, z5⟩ := hz; go_simp
           try (with_reducible rfl)
          simp only [qaq, qam, qap, qao, qan]; refine wpAnyH_take (i := 5) (oi := { dst := some 62, op := _, type := _, pos := _, after := _, guard := _ }) (v := ?vx45) rfl (by kernel_rfl) (by kernel_rfl) (by kernel_rfl) (fun _ _ _ h => h) (Or.inl ⟨by rfl, ?hyx45⟩) hS ?restx45
          case hyx45 =>
           intro z hz; obtain ⟨z1, z2, z3, z4, z5⟩ := hz; go_simp
           try (with_reducible rfl)
          simp only [qaq, qam, qap, qao, qan]; refine wpAnyH_take (i := 6) (oi := { dst := some 63, op := _, type := _, pos := _, after := _, guard := _ }) (v := ?vx46) rfl (by kernel_rfl) (by kernel_rfl) (by kernel_rfl) (fun _ _ _ h => h) (Or.inl ⟨by rfl, ?hyx46⟩) hS ?restx46
          case hyx46 =>
           intro z hz; obtain ⟨z1, z2, z3, z4, z5⟩ := hz; go_simp
           try (with_reducible rfl)
          simp only [qaq, qam, qap, qao, qan]; refine wpAnyH_take (i := 7) (oi := { dst := some 64, op := _, type := _, pos := _, after := _, guard := _ }) (v := ?vx47) rfl (by kernel_rfl) (by kernel_rfl) (by kernel_rfl) (fun _ _ _ h => h) (Or.inl ⟨by rfl, ?hyx47⟩) hS ?restx47
          case hyx47 =>
           intro z hz; obtain ⟨z1, z2, z3, z4, z5⟩ := hz; go_simp
           try (with_reducible rfl)
          simp only [qaq, qam, qap, qao, qan]; refine wpAnyH_ready (rs := [4]) (by kernel_rfl) (by simp) ?_; refine AllReadyH.cons (o := { dst := some 61, op := .call { callee := .value (.func 71), args := #[.tmp 57, .tmp 58, .tmp 59, .tmp 60], argTypes := #[104, 37, 31, 3] }, type := 3, pos := _, after := _, guard := none }) rfl (fun K hK => ?_) AllReadyH.nil; refine qd4 Try.func71 (by kernel_rfl) rfl #[.agg #[.func (.func 68) #[] #[]], .slice Ax x.length cx, .slice A0 l0.length c0, .int .i64 (i : Int)] (by rfl) rfl rfl (by (try simp only [List.map_toArray, List.map_cons, List.map_nil]); first | done | rfl) ?_; refine (qbb.calls k 0 Ax cx x A0 c0 l0 (i : Int) lo _ ?q1w147 hcx ?q2w147 HC0.out HLO.out).mono ?_
          case q1w147 => exact Kd.C_below HCX.out (qbC HBe.out)
          case q2w147 => exact Kd.C_below HR0.out (HI.out.bx.below.trans ((qbC HBe.out).mono hww))
          rintro e w1 ⟨rfl, hbw1⟩; refine ⟨_, rfl, ?_⟩; have HBw1 := qaa.mk (show Below W.heap.size W w1 from (qbC HBe.out).trans (hbw1.mono (qbC HBe.out).size)); have hS1 := (show _ from hSb w1 ((show Below We.heap.size We w1 from (qbC (Below.refl We.heap.size We)).trans (hbw1.mono ((qbC (Below.refl We.heap.size We)).size))))); clear hS; refine hK.out _ _ hS1 (fun hS => ?_); simp only [qaq, qam, qap, qao, qan]; refine wpAnyH_take (i := 8) (oi := { dst := some 65, op := _, type := _, pos := _, after := _, guard := _ }) (v := ?vx48) rfl (by kernel_rfl) (by kernel_rfl) (by kernel_rfl) (fun _ _ _ h => h) (Or.inl ⟨by rfl, ?hyx48⟩) hS ?restx48
          case hyx48 =>
           intro z hz; obtain ⟨z1, z2, z3, z4, z5⟩ := hz; go_simp
           try (with_reducible rfl)
          simp only [qaq, qam, qap, qao, qan]; refine wpAnyH_take (i := 9) (oi := { dst := some 66, op := _, type := _, pos := _, after := _, guard := _ }) (v := ?vx49) rfl (by kernel_rfl) (by kernel_rfl) (by kernel_rfl) (fun _ _ _ h => h) (Or.inl ⟨by rfl, ?hyx49⟩) hS ?restx49
          case hyx49 =>
           intro z hz; obtain ⟨z1, z2, z3, z4, z5⟩ := hz; go_simp
           try (with_reducible rfl)
          simp only [qaq, qam, qap, qao, qan]; refine wpAnyH_take (i := 10) (oi := { dst := some 67, op := _, type := _, pos := _, after := _, guard := _ }) (v := ?vx50) rfl (by kernel_rfl) (by kernel_rfl) (by kernel_rfl) (fun _ _ _ h => h) (Or.inl ⟨by rfl, ?hyx50⟩) hS ?restx50
          case hyx50 =>
           intro z hz; obtain ⟨z1, z2, z3, z4, z5⟩ := hz; go_simp
           try (with_reducible rfl)
          simp only [qaq, qam, qap, qao, qan]; refine wpAnyH_take (i := 11) (oi := { dst := some 68, op := _, type := _, pos := _, after := _, guard := _ }) (v := ?vx51) rfl (by kernel_rfl) (by kernel_rfl) (by kernel_rfl) (fun _ _ _ h => h) (Or.inl ⟨by rfl, ?hyx51⟩) hS ?restx51
          case hyx51 =>
           intro z hz; obtain ⟨z1, z2, z3, z4, z5⟩ := hz; go_simp
           try (with_reducible rfl)
          simp only [qaq, qam, qap, qao, qan]; refine wpAnyH_take (i := 12) (oi := { dst := some 69, op := _, type := _, pos := _, after := _, guard := _ }) (v := ?vx52) rfl (by kernel_rfl) (by kernel_rfl) (by kernel_rfl) (fun _ _ _ h => h) (Or.inl ⟨by rfl, ?hyx52⟩) hS ?restx52
          case hyx52 =>
           intro z hz; obtain ⟨z1, z2, z3, z4, z5⟩ := hz; go_simp
           try (with_reducible rfl)
          simp only [qaq, qam, qap, qao, qan]; refine wpAnyH_take (i := 13) (oi := { dst := some 70, op := _, type := _, pos := _, after := _, guard := _ }) (v := ?vx53) rfl (by kernel_rfl) (by kernel_rfl) (by kernel_rfl) (fun _ _ _ h => h) (Or.inl ⟨by rfl, ?hyx53⟩) hS ?restx53
          case hyx53 =>
           intro z hz; obtain ⟨z1, z2, z3, z4, z5⟩ := hz; go_simp
           try (with_reducible rfl)
          simp only [qaq, qam, qap, qao, qan]; refine wpAnyH_take (i := 15) (oi := { dst := some 72, op := _, type := _, pos := _, after := _, guard := _ }) (v := ?vx54) rfl (by kernel_rfl) (by kernel_rfl) (by kernel_rfl) (fun _ _ _ h => h) (Or.inl ⟨by rfl, ?hyx54⟩) hS ?restx54
          case hyx54 =>
           intro z hz; obtain ⟨z1, z2, z3, z4, z5⟩ := hz; go_simp
           try (with_reducible rfl)
          simp only [qaq, qam, qap, qao, qan]; refine wpAnyH_take (i := 16) (oi := { dst := some 73, op := _, type := _, pos := _, after := _, guard := _ }) (v := ?vx55) rfl (by kernel_rfl) (by kernel_rfl) (by kernel_rfl) (fun _ _ _ h => h) (Or.inl ⟨by rfl, ?hyx55⟩) hS ?restx55
          case hyx55 =>
           intro z hz; obtain ⟨z1, z2, z3, z4, z5⟩ := hz; go_simp
           try (with_reducible rfl)
          simp only [qaq, qam, qap, qao, qan]; refine wpAnyH_take (i := 17) (oi := { dst := some 74, op := _, type := _, pos := _, after := _, guard := _ }) (v := ?vx56) rfl (by kernel_rfl) (by kernel_rfl) (by kernel_rfl) (fun _ _ _ h => h) (Or.inl ⟨by rfl, ?hyx56⟩) hS ?restx56
          case hyx56 =>
           intro z hz; obtain ⟨z1, z2, z3, z4, z5⟩ := hz; go_simp
           try (with_reducible rfl)
          simp only [qaq, qam, qap, qao, qan]; have hbX := (qbC (Below.refl We.heap.size We)).trans (hbw1.mono (Nat.le_refl We.heap.size)); refine wpAnyH_ready (rs := [14]) (by kernel_rfl) (by simp) ?_; refine AllReadyH.cons (o := { dst := some 71, op := .call { callee := .value (.func 71), args := #[.tmp 67, .tmp 68, .tmp 69, .tmp 70], argTypes := #[104, 37, 31, 3] }, type := 3, pos := _, after := _, guard := some (9, false) }) rfl (fun K hK => ?_) AllReadyH.nil; refine qd4 Try.func71 (by kernel_rfl) rfl #[.agg #[.func (.func 69) #[] #[]], .slice Ax x.length cx, .slice A0 l0.length c0, .int .i64 (i : Int)] (by rfl) rfl rfl (by (try simp only [List.map_toArray, List.map_cons, List.map_nil]); first | done | rfl) ?_; refine (qa5.calls k 0 Ax cx x A0 c0 l0 (i : Int) hi2 _ ?q1w256 hcx ?q2w256 HC0.out HHI.out).mono ?_
          case q1w256 => exact Kd.C_below HCX.out HBw1.out
          case q2w256 => exact Kd.C_below HR0.out (HI.out.bx.below.trans (HBw1.out.mono hww))
          rintro e w2 ⟨rfl, hbw2⟩; refine ⟨_, rfl, ?_⟩; have HBw2 := qaa.mk (show Below W.heap.size W w2 from HBw1.out.trans (hbw2.mono HBw1.out.size)); have hS1 := (show _ from hSb w2 ((show Below We.heap.size We w2 from hbX.trans (hbw2.mono (hbX.size))))); clear hS; refine hK.out _ _ hS1 (fun hS => ?_); simp only [qaq, qam, qap, qao, qan]; refine wpAnyH_take (i := 18) (oi := { dst := some 75, op := _, type := _, pos := _, after := _, guard := _ }) (v := ?vx57) rfl (by kernel_rfl) (by kernel_rfl) (by kernel_rfl) (fun _ _ _ h => h) (Or.inl ⟨by rfl, ?hyx57⟩) hS ?restx57
          case hyx57 =>
           intro z hz; obtain ⟨z1, z2, z3, z4, z5⟩ := hz; go_simp
           try (with_reducible rfl)
          simp only [qaq, qam, qap, qao, qan]; refine wpAnyH_take (i := 19) (oi := { dst := some 76, op := _, type := _, pos := _, after := _, guard := _ }) (v := ?vx58) rfl (by kernel_rfl) (by kernel_rfl) (by kernel_rfl) (fun _ _ _ h => h) (Or.inl ⟨by rfl, ?hyx58⟩) hS ?restx58
          case hyx58 =>
           intro z hz; obtain ⟨z1, z2, z3, z4, z5⟩ := hz; go_simp
           try (with_reducible rfl)
          simp only [qaq, qam, qap, qao, qan]; refine wpAnyH_done (by kernel_rfl) ?_ _
          gi_wp2
          gi_roundg d
          case measure => omega
          case rel => exact ⟨i + 1, by simp, ⟨by have := HD.out; omega⟩, ⟨HA2.out⟩, HBw2⟩
       ·
        have hgk : gk = 0 := by have := HD.out; omega
        subst hgk; obtain rfl : true = bb := Option.some.inj HA.out; clear HA
        have HO := qaa.mk (show ShO w A0 c0 l0.length A1 c1 l1.length lb (lb + 1) (lb + 2) (lb + 3) Ax x W wr out from
         ⟨(qfT (Bl := lb + 4) (B := lb + 3) HB.out).1, (qfT (Bl := lb + 4) (B := lb + 3) HB.out).2, HI.out.bx.keep HB.out, qar HI.out.lo HB.out, qar HI.out.hi HB.out, ⟨vo, qar HBO.out HB.out, Kd.R_below HR3.out HB.out, HN.out⟩, Kd.C_below HCX.out HB.out, Nat.le_trans HI.out.sz HB.out.size⟩)
        clear HD HB hcz3
        gi_upto_region 18 with (fail)
        gi_cut [79] from 80 (fun v79 wc => v79 = .bool (decide (out = [])) ∧ qaa (ShO w A0 c0 l0.length A1 c1 l1.length lb (lb + 1) (lb + 2) (lb + 3) Ax x W wc out))
        case first =>
         obtain ⟨v2, g1, g2, g3⟩ := HO.out.ex; have hob : wr.cell? ⟨lb + 2, 0, none⟩ = some v2 := (qai g1 0).trans rfl
         by_cases ho : out = []
         ·
          rw [g3.2 ho] at hob; have hvn := Lib.run_eql_slice_nil (P := Try.prog) wr 32 25 none 0 0 0 0 Try.underlying32; clear g1 g2 g3
          gi_wp2
          gi_meet
          case rel => exact ⟨by rw [decide_eq_true ho], HO⟩
         ·
          obtain ⟨go, co, eo, _, _, _⟩ := Kd.R_form g2 (List.length_pos_iff.2 ho); rw [eo] at hob; have hvn := Lib.run_eql_slice_nil (P := Try.prog) wr 32 25 (some ⟨go, 0, none⟩) out.length co 0 0 Try.underlying32; clear g1 g2 g3 eo
          gi_wp2
          gi_meet
          case rel => exact ⟨by rw [decide_eq_false ho], HO⟩
        case rest =>
         clear HO; obtain ⟨rfl, HO⟩ := hcut
         gi_upto_if 79 with (fail)
         gi_cut [] from 79 (fun wc => qaa (ShO w A0 c0 l0.length A1 c1 l1.length lb (lb + 1) (lb + 2) (lb + 3) Ax x W wc (if out = [] then x.map (fun n => ⟨n, n⟩) else out)))
         case first =>
          by_cases ho : out = []
          ·
           have hod : decide (out = []) = true := decide_eq_true ho; subst ho
           gi_wp2
           gi_loopg [82] x.length (fun d v82 wr => ∃ (i : Nat), v82 = .int .i64 (i : Int) ∧ qaa (i + d = x.length) ∧ qaa (ShO w A0 c0 l0.length A1 c1 l1.length lb (lb + 1) (lb + 2) (lb + 3) Ax x W wr ((x.take i).map (fun n => ⟨n, n⟩))))
           case atStart => exact ⟨0, rfl, ⟨by omega⟩, ⟨by simpa using HO.out⟩⟩
           case round =>
            obtain ⟨j, rfl, HJ, HO2⟩ := hrel
            by_cases hj : j < x.length
            ·
             obtain ⟨d, rfl⟩ : ∃ d, gk = d + 1 := ⟨gk - 1, by have := HJ.out; omega⟩; obtain ⟨ad, ea, hx0⟩ := Kd.at_int HO2.out.cx (j : Int) (by omega) (by omega); subst ea; rw [Int.toNat_natCast] at hx0; obtain ⟨v2, g1, g2, g3⟩ := HO2.out.ex; have hob : wr.cell? ⟨lb + 2, 0, none⟩ = some v2 := (qai g1 0).trans rfl; have hof := qaj g1 0; have HG1 := qaa.mk g1; have HG2 := qaa.mk g2; have HG3 := qaa.mk g3; clear g1 g2 g3; have hu25 := Try.underlying25
             gi_upto_region 22 with (fail)
             refine qnm ?hnoB (by kernel_rfl) ?_
             case hnoB => rintro ⟨a, w, h⟩; exact h
             go_wp2_with (at_builtin; refine Stop.out ?_)
             refine Stop.mk ?_
             have hl16 : (((x.take j).map (fun n => (⟨n, n⟩ : S25))).length + 1) * 16 ≤ 140737488355328 := by simp; omega
             refine Kd.R_append k25 (w0 := wr) (lb + 3) rfl (.tmp 86) (.tmp 90) 32 25 (.agg #[.int .i64 0, .int .i64 0]) 16 rfl Try.underlying32 qqa rfl (by decide) (by omega) v2 ((x.take j).map (fun n => ⟨n, n⟩)) ⟨rd x j, rd x j⟩ [.int .i64 (rd x j), .int .i64 (rd x j)] (fun _ => True) (fun _ => False) rfl rfl (qgI _ _ _ ⟨rd x j, rd x j⟩) (fun _ hk => hk.elim) (fun _ _ => trivial) HG2.out (Below.refl _ _) HO2.out.sz hl16 ?_; intro v3 w3 hr3 hb3 hgr3 hat3; obtain ⟨go3, co3, rfl, _, _, _⟩ := Kd.R_form hr3 (by simp); have hob3 : w3.cell? ⟨lb + 2, 0, none⟩ = some v2 := (qai (qd0 HG2.out hgr3 (by decide) HG1.out) 0).trans rfl; have hof3 := qaj (qd0 HG2.out hgr3 (by decide) HG1.out) 0; have HSN := qaa.mk (HO2.out.app qrC HG1.out HG2.out hgr3 hr3 (by simp) HROW.out)
             go_wp2
             gi_wp2
             gi_roundg d
             case measure => omega
             case rel =>
              refine ⟨j + 1, by simp, ⟨by have := HJ.out; omega⟩, ⟨?_⟩⟩; have h5 := HSN.out; rw [List.take_succ_eq_append_getElem hj, List.map_append, List.map_singleton]
              have h6 : rd x (j : Int) = x[j] := by simp [rd, List.getD_eq_getElem?_getD, List.getElem?_eq_getElem hj]
              rw [← h6]
              simpa using h5
            ·
             have hjx : j = x.length := by have := HJ.out; omega
             subst hjx
             gi_wp2
             gi_meet
             case rel => exact ⟨by have := HO2.out; rw [List.take_length] at this; exact this⟩
          ·
           have hod : decide (out = []) = false := decide_eq_false ho
           gi_wp2
           gi_meet
           case rel => exact ⟨by rw [if_neg ho]; exact HO.out⟩
         case rest =>
          clear HO; have HO := hcut; obtain ⟨o2, ho2⟩ : ∃ o2, (if out = [] then x.map (fun n => (⟨n, n⟩ : S25)) else out) = o2 := ⟨_, rfl⟩
          have hl2 : o2.length = x.length := by
           rw [← ho2]
           rcases HOUT.out with h | h
           · rw [if_pos h]; simp
           ·
            by_cases h0 : out = []
            · rw [if_pos h0]; simp
            · rw [if_neg h0, h, HXL.out]
          rw [ho2] at HO; have HL2 := qaa.mk hl2; have HE2 := qaa.mk ho2; clear ho2 hl2
          gi_wp2
          gi_loopg [95] x.length (fun d v95 wr => ∃ (i : Nat), v95 = .int .i64 (i : Int) ∧ qaa (i + d = x.length) ∧ qaa (ShO w A0 c0 l0.length A1 c1 l1.length lb (lb + 1) (lb + 2) (lb + 3) Ax x W wr (qfR o2 x i)))
          case atStart => exact ⟨0, rfl, ⟨by omega⟩, ⟨by rw [qpU]; exact HO.out⟩⟩
          case round =>
           obtain ⟨j, rfl, HJ, HQ⟩ := hrel
           by_cases hj : j < x.length
           ·
            obtain ⟨d, rfl⟩ : ∃ d, gk = d + 1 := ⟨gk - 1, by have := HJ.out; omega⟩; obtain ⟨ad, ea, hx0⟩ := Kd.at_int HQ.out.cx (j : Int) (by omega) (by omega); subst ea; rw [Int.toNat_natCast] at hx0; obtain ⟨v2, g1, g2, g3⟩ := HQ.out.ex; obtain ⟨oj, hoj⟩ : ∃ oj, qfR o2 x j = oj := ⟨_, rfl⟩
            have hjo : oj.length = x.length := by rw [← hoj]; exact qni HL2.out (by omega)
            rw [hoj] at g2 g3; obtain ⟨go, co, rfl, _, _, _⟩ := Kd.R_form g2 (by omega); have hob : wr.cell? ⟨lb + 2, 0, none⟩ = some (.slice (some ⟨go, 0, none⟩) oj.length co) := (qai g1 0).trans rfl
            have hjl : j < oj.length := by omega
            obtain ⟨c, hcl, hM, hcc, hcf⟩ := Kd.R_elem g2 z25 (j : Int) (by omega) (by omega); obtain ⟨p, hp⟩ : ∃ p, oj.getD j z25 = p := ⟨_, rfl⟩; rw [Int.toNat_natCast] at hM hcc hcf; rw [hp] at hM; obtain rfl := qqc hM; have he0 : wr.cell? ⟨go, j * 2, none⟩ = some (.int .i64 p.f0) := hcc 0 _ rfl; have he1 : wr.cell? ⟨go, j * 2 + 1, none⟩ = some (.int .i64 p.f1) := hcc 1 _ rfl; have HCC := qaa.mk hcc; have HG1 := qaa.mk g1; have HG2 := qaa.mk g2; have HP := qaa.mk hp; have HOJ := qaa.mk hoj; have HJO := qaa.mk hjo; clear hcc g1 g2 g3 hp hoj hjo hcl hM hcf; have hu25 := Try.underlying25
            gi_upto_region 27 with (fail)
            refine qkf 18 hmix ?hnoC (by kernel_rfl) (by kernel_rfl) ?_
            case hnoC => rintro ⟨a, w, h⟩; exact h
            simp only [List.take_succ_cons, List.take_zero, List.drop_succ_cons, List.drop_zero]
            repeat still_step
            refine wpStill_nil ?_; change wpList _ _ _ _ _ (World.drew _); refine Kd.R_store k25 (w0 := wr.drew) (lb + 3) rfl rfl 25 (.tmp 117) (.tmp 116) rfl 25 (o' := j * 2) (j : Int) 0 oj ⟨if rd x (j : Int) < p.f0 then rd x (j : Int) else p.f0, if p.f1 < rd x (j : Int) then rd x (j : Int) else p.f1⟩ (.agg #[.int .i64 (if rd x (j : Int) < p.f0 then rd x (j : Int) else p.f0), .int .i64 (if p.f1 < rd x (j : Int) then rd x (j : Int) else p.f1)]) [.int .i64 (if rd x (j : Int) < p.f0 then rd x (j : Int) else p.f0), .int .i64 (if p.f1 < rd x (j : Int) then rd x (j : Int) else p.f1)] [.int .i64 p.f0, .int .i64 p.f1] (fun _ => True) (fun _ => False) rfl (by rw [Int.toNat_natCast]; rfl) rfl rfl (by rw [qte.1]; rfl) (by simp [Value.oneCell']) (Kd.R_drew HG2.out) (by omega) (by omega) rfl (by rw [Int.toNat_natCast]; exact HCC.out) (Nat.le_refl 2) (qgI _ _ _ ⟨if rd x (j : Int) < p.f0 then rd x (j : Int) else p.f0, if p.f1 < rd x (j : Int) then rd x (j : Int) else p.f1⟩) (fun _ hk => hk.elim) (Below.refl _ _) ?_; intro w1 hr1 hb1 hgr1
            have hset : oj.set (j : Int).toNat ⟨if rd x (j : Int) < p.f0 then rd x (j : Int) else p.f0, if p.f1 < rd x (j : Int) then rd x (j : Int) else p.f1⟩ = qfR o2 x (j + 1) := by
             rw [Int.toNat_natCast, ← HOJ.out]
             exact qpT HL2.out hj (by rw [HOJ.out]; exact HP.out)
            rw [hset] at hr1; have HSN := qaa.mk (HQ.out.put qrC HG1.out HG2.out (qim hgr1) hr1 (by intro e; have := qni (j := j + 1) HL2.out (by omega); rw [e] at this; simp at this; omega) HROW.out); clear hset
            go_wp2
            all_goals
             gi_wp2
            all_goals
             gi_roundg d
             case measure => omega
             case rel => exact ⟨j + 1, by simp, ⟨by have := HJ.out; omega⟩, HSN⟩
           ·
            have hjx : j = x.length := by have := HJ.out; omega
            subst hjx
            gi_wp2
            have h5 := HQ.out; rw [qqr HL2.out] at h5; obtain ⟨v2, g1, g2, g3⟩ := h5.ex; refine ⟨h5.kf, h5.kr, ⟨⟨v2, _, ?_, g1, g2, g3⟩, h5.bx, h5.lo, h5.hi, h5.sz⟩⟩; rw [HST.out, ← HE2.out]; rfl
     case done =>
      intro D W hD hI hK; obtain ⟨v, out, h1, h2, h3, h4⟩ := hI.ex; have hco : W.cell? ⟨lb + 2, 0, none⟩ = some v := (qai h2 0).trans rfl; have hF2 := HF.out; rw [h1] at hF2
      have hDw : w.heap.size ≤ D := by omega
      have HBW := qaa.mk hI.bx.below; have HKD := qaa.mk hK; have HR3 := qaa.mk h3
      have heq : ∀ (a : Option Addr) (n c : Nat), (binOp .eql 32 (.slice a n c) (.slice none 0 0)).run Try.prog W = .ok (.bool a.isNone) W := fun a n c => Lib.run_eql_slice_nil W 32 25 a n c 0 0 Try.underlying32
      clear hI h2 h1 h3 HF hK
      by_cases ho : out = []
      ·
       obtain rfl := h4.2 ho; subst ho
       injection hF2 with hF2
       replace hF2 : (([], 4) : List S25 × Int) = (r1, r2) := hF2
       injection hF2 with e1 e2
       subst e1 e2; clear h4 HR3
       gi_wp2
       simp only [Exit.noGoto]; refine ⟨by simp, .inl ⟨_, _, rfl, run_takeDeferred HKD.out, ?_⟩⟩; refine ⟨_, results_tmp2 rfl _ _ _, ?_⟩
       exact ⟨_, rfl, Kd.V_nil _ _ _ _ _, HBW.out.grown (grownBy_putObj' _ _ _) HBW.out.size (fun r e => by cases e; omega)⟩
      ·
       injection hF2 with hF2
       replace hF2 : (out, (0 : Int)) = (r1, r2) := by rw [← hF2]; simp [ho]
       injection hF2 with e1 e2
       subst e1 e2; have hpos : 0 < out.length := List.length_pos_iff.2 ho; obtain ⟨go, co, eo, gb, gl, cl, HG⟩ := Kd.R_form HR3.out hpos; subst eo; have hcc := (Kd.R_reads' HR3.out).2.1; have hcut := qif (P := Try.prog) 32 25 Try.underlying32 rfl (some ⟨go, 0, none⟩) out.length co hcc; have HGC := qaa.mk HG; clear HG h4 ho
       gi_wp2
       simp only [Exit.noGoto]; refine ⟨by simp, .inl ⟨_, _, rfl, run_takeDeferred HKD.out, ?_⟩⟩; refine ⟨_, results_tmp2 rfl _ _ _, ?_⟩; have hgp := grownBy_putObj' W D (.deferred none); have hR4 : Kd.R k25 25 W w.heap.size (fun k_ => w.heap.size ≤ k_) (.slice (some ⟨go, 0, none⟩) out.length co) out := Kd.R_mono (Kd.R_bound (Kd.R_lower HR3.out (by omega))) (fun _ hk => hk.2.1)
       have hne : go ≠ D := fun e => by
        have h5 := HGC.out; rw [e, HKD.out] at h5; cases h5
       refine ⟨_, rfl, qpX (Kd.R_mono (Kd.R_move (Kd.R_types2 hR4 HKD.out) (fun k hk => World.putObj_heap_other hk.2)) (fun _ hk => hk.1)) _ rfl, HBW.out.grown hgp HBW.out.size (fun r e => by cases e; omega)⟩
end Go.Proofs.Ytmhomdohhihlcaa.P
namespace Go.Proofs.Ytmhomdohhihlcaa.P
open Go.RowKit Go.Proofs.YtmhomdohhihlcaaW.PrintWords Go.Proofs.YtmhomdohhihlcaaW.PrintLast Go.Proofs.YtmhomdohhihlcaaW.PrintMore
attribute [local go_sem] qb2 qb4 qcg qch qbQ qbR qb3 qb5
attribute [local go_sem high] qnG
def qcl.l0 : Nat → List (S25) → List (S25) → Int → Option (Bool)
 | 0, _, _, _ => none
 | k + 1, x0, x1, x5 => if x5 < (x0.length : Int) then (if 0 ≤ x5 then (if x5 < (x1.length : Int) then (if (!(((qbG x0 x5).f0) == ((qbG x1 x5).f0)) || (!(((qbG x0 x5).f1) == ((qbG x1 x5).f1)))) = true then (some false) else (qcl.l0 k x0 x1 (wrap64 (x5 + 1)))) else (none)) else (none)) else (some true)
def qcl.f (k : Nat) (l0 : List (S25)) (l1 : List (S25)) : Option (Bool) := if (l0.length : Int) = (l1.length : Int) then (qcl.l0 k l0 l1 0) else (some false)
set_option maxHeartbeats 8000000 in
set_option maxRecDepth 100000 in
theorem qcl.calls (k : Nat) (A0 : Option Addr) (c0 : Nat) (l0 : List (S25)) (A1 : Option Addr) (c1 : Nat) (l1 : List (S25)) (r : Bool) (w : World) (hr0 : Kd.C k25 w A0 l0.length l0) (hc0 : l0.length ≤ c0) (hr1 : Kd.C k25 w A1 l1.length l1) (hc1 : l1.length ≤ c1) (h : qcl.f k l0 l1 = some r) :
  Calls Try.prog 24 #[.slice A0 l0.length c0, .slice A1 l1.length c1] w fun e w' => e = .returned (.bool r) ∧ qbF w w' := by
 have hu25 := Try.underlying25
 have HR0 := qaa.mk hr0
 have HC0 := qaa.mk hc0
 clear hr0 hc0
 have HR1 := qaa.mk hr1
 have HC1 := qaa.mk hc1
 clear hr1 hc1
 have H : (if (l0.length : Int) = (l1.length : Int) then (qcl.l0 k l0 l1 0) else (some false)) = some r := h
 clear h
 by_cases c3 : (l0.length : Int) = (l1.length : Int)
 ·
  rw [if_pos c3] at H
  have c3b0 : ((l0.length : Int) == (l1.length : Int)) = true := beq_iff_eq.mpr c3
  have c3b1 : ((l0.length : Int) != (l1.length : Int)) = false := bne_eq_false_iff_eq.mpr c3
  have c3b2 : (l0.length == l1.length) = true := by first | simpa using c3 | (simp at c3 ⊢; omega)
  clear c3
  have H' := qaa.mk H
  clear H
  go_enter Try.func24, Try.ntmps24
  go_wp2
  repeat (go_quiet (fail); try go_wp2)
  go_loopg [5] k (fun kq v5 w' => ∃ (x5_1 : Int), v5 = .int .i64 x5_1 ∧ qaa (qcl.l0 kq l0 l1 x5_1 = some r) ∧ qaa (kq ≤ k) ∧ qbF w w')
  case atStart => exact ⟨(0), (by first | rfl | (simp; done) | (simp [*]; done)), H', ⟨Nat.le_refl _⟩, by repeat (first | exact qbF.refl _ | apply qbF.step)⟩
  clear H'
  try clear c1
  try clear c2
  try clear p2
  try clear c3
  try clear c3b0
  try clear c3b1
  try clear c3b2
  obtain ⟨x5_1, rfl, HA, HK1, ⟨m1, rfl⟩⟩ := hrel
  cases gk with
  | zero => exact absurd HA.out (by simp [qcl.l0])
  | succ k1 =>
   have H := HA.out
   clear HA
   simp only [qcl.l0] at H
   by_cases c4 : x5_1 < (l0.length : Int)
   ·
    rw [if_pos c4] at H; have c4b0 : decide (x5_1 < (l0.length : Int)) = true := decide_eq_true c4; clear c4
    by_cases c5 : 0 ≤ x5_1
    ·
     rw [if_pos c5] at H; have c5b0 : decide (0 ≤ x5_1) = true := decide_eq_true c5; clear c5
     by_cases c6 : x5_1 < (l1.length : Int)
     ·
      rw [if_pos c6] at H; have c6b0 : decide (x5_1 < (l1.length : Int)) = true := decide_eq_true c6; clear c6
      by_cases c7 : (!(((qbG l0 x5_1).f0) == ((qbG l1 x5_1).f0)) || (!(((qbG l0 x5_1).f1) == ((qbG l1 x5_1).f1)))) = true
      ·
       rw [if_pos c7] at H; have c7b0 : (!(((qbG l0 x5_1).f0) == ((qbG l1 x5_1).f0)) || (!(((qbG l0 x5_1).f1) == ((qbG l1 x5_1).f1)))) = true := c7; clear c7; obtain rfl := Option.some.inj H; have p142 : 0 ≤ (x5_1 : Int) := of_decide_eq_true (by first | (with_reducible assumption) | assumption); have q142 : x5_1 < (l0.length : Int) := of_decide_eq_true (by first | (with_reducible assumption) | assumption); obtain ⟨quh, e142, qs7, qs8⟩ := qhC HR0.out x5_1 p142 q142; cases e142; replace p142 := eq_true p142; replace q142 := eq_true q142; have p143 : 0 ≤ (x5_1 : Int) := of_decide_eq_true (by first | (with_reducible assumption) | assumption); have q143 : x5_1 < (l1.length : Int) := of_decide_eq_true (by first | (with_reducible assumption) | assumption); obtain ⟨qui, e143, qs9, qta⟩ := qhC HR1.out x5_1 p143 q143; cases e143; replace p143 := eq_true p143; replace q143 := eq_true q143
       go_wp2
       repeat (go_quiet (fail); try go_wp2)
       go_ret
       exact ⟨by first | rfl | (simp; done) | (simp [*]; done), by repeat (first | exact qbF.refl _ | apply qbF.step)⟩
      rw [if_neg c7] at H
      have c7b0 : (!(((qbG l0 x5_1).f0) == ((qbG l1 x5_1).f0)) || (!(((qbG l0 x5_1).f1) == ((qbG l1 x5_1).f1)))) = false := by simpa using c7
      clear c7; have H' := qaa.mk H; clear H; have p142 : 0 ≤ (x5_1 : Int) := of_decide_eq_true (by first | (with_reducible assumption) | assumption); have q142 : x5_1 < (l0.length : Int) := of_decide_eq_true (by first | (with_reducible assumption) | assumption); obtain ⟨quh, e142, qs7, qs8⟩ := qhC HR0.out x5_1 p142 q142; cases e142; replace p142 := eq_true p142; replace q142 := eq_true q142; have p143 : 0 ≤ (x5_1 : Int) := of_decide_eq_true (by first | (with_reducible assumption) | assumption); have q143 : x5_1 < (l1.length : Int) := of_decide_eq_true (by first | (with_reducible assumption) | assumption); obtain ⟨qui, e143, qs9, qta⟩ := qhC HR1.out x5_1 p143 q143; cases e143; replace p143 := eq_true p143; replace q143 := eq_true q143
      go_wp2
      repeat (go_quiet (fail); try go_wp2)
      go_roundg k1
      case measure => have := HK1.out; omega
      case rel => exact ⟨(wrap64 (x5_1 + 1)), (by first | rfl | (simp; done) | (simp [*]; done)), H', ⟨by have := HK1.out; omega⟩, by repeat (first | exact qbF.refl _ | apply qbF.step)⟩
     rw [if_neg c6] at H
     exact absurd H (by simp)
    rw [if_neg c5] at H
    exact absurd H (by simp)
   rw [if_neg c4] at H
   have c4b0 : decide (x5_1 < (l0.length : Int)) = false := decide_eq_false c4
   clear c4
   obtain rfl := Option.some.inj H
   go_wp2
   repeat (go_quiet (fail); try go_wp2)
   go_ret
   exact ⟨by first | rfl | (simp; done) | (simp [*]; done), by repeat (first | exact qbF.refl _ | apply qbF.step)⟩
 rw [if_neg c3] at H
 have c3b0 : ((l0.length : Int) == (l1.length : Int)) = false := beq_eq_false_iff_ne.mpr c3
 have c3b1 : ((l0.length : Int) != (l1.length : Int)) = true := bne_iff_ne.mpr c3
 have c3b2 : (l0.length == l1.length) = false := by first | simpa using c3 | (simp at c3 ⊢; omega)
 obtain rfl := Option.some.inj H
 go_enter Try.func24, Try.ntmps24
 go_wp2
 repeat (go_quiet (fail); try go_wp2)
 go_ret
 exact ⟨by first | rfl | (simp; done) | (simp [*]; done), by repeat (first | exact qbF.refl _ | apply qbF.step)⟩
end Go.Proofs.Ytmhomdohhihlcaa.P
namespace Go.Proofs.Ytmhomdohhihlcaa.P
open Go.RowKit Go.Proofs.YtmhomdohhihlcaaW.PrintWords Go.Proofs.YtmhomdohhihlcaaW.PrintLast Go.Proofs.YtmhomdohhihlcaaW.PrintMore
attribute [local go_sem] qb2 qb4 qcg qch qbQ qbR qb3 qb5
mutual
def qaE.j0 : Nat → Int → Bool → List Int → List Int → List Int → Int → Int → Option (Bool)
 | 0, _, _, _, _, _, _, _ => none
 | k + 1, x3, x4, qfX, qfY, qfZ, qhy, qhz => qaE.l0 k x3 x4 0 qfX qfY qfZ qhy qhz
def qaE.l0 : Nat → Int → Bool → Int → List Int → List Int → List Int → Int → Int → Option (Bool)
 | 0, _, _, _, _, _, _, _, _ => none
 | k + 1, x3, x4, x5, qfX, qfY, qfZ, qhy, qhz => if x4 = true then (qaE.j2 k x3 x4 x5 (decide (x5 < x3)) qfX qfY qfZ qhy qhz) else (qaE.j2 k x3 x4 x5 false qfX qfY qfZ qhy qhz)
def qaE.j2 : Nat → Int → Bool → Int → Bool → List Int → List Int → List Int → Int → Int → Option (Bool)
 | 0, _, _, _, _, _, _, _, _, _ => none
 | k + 1, x3, x4, x5, x47, qfX, qfY, qfZ, qhy, qhz => if x47 = true then (if 0 ≤ x5 then (if x5 < (qfX.length : Int) then ((qaD.f (rd qfX x5) 0 100000).bind fun t149 => (if t149 = true then (if x5 < (qfY.length : Int) then ((qaD.f (rd qfY x5) 0 1000).bind fun t151 => (if t151 = true then (if x5 < (qfZ.length : Int) then ((qaD.f (rd qfZ x5) 0 100).bind fun t153 => (qaE.l0 k x3 t153 (wrap64 (x5 + 1)) qfX qfY qfZ qhy qhz)) else (none)) else (qaE.l0 k x3 false (wrap64 (x5 + 1)) qfX qfY qfZ qhy qhz))) else (none)) else (qaE.l0 k x3 false (wrap64 (x5 + 1)) qfX qfY qfZ qhy qhz))) else (none)) else (none)) else (some x4)
end
def qaE.f (k : Nat) (l0_0 : List Int) (l0_1 : List Int) (l0_2 : List Int) (a0_3 : Int) (a0_4 : Int) : Option (Bool) := (qaD.f (l0_0.length : Int) 1 6).bind fun t145 => (if t145 = true then (if (l0_1.length : Int) = (l0_0.length : Int) then (if (l0_2.length : Int) = (l0_0.length : Int) then ((qaD.f a0_3 0 100000000).bind fun t146 => (if t146 = true then ((qaD.f a0_4 0 (wrap64 ((l0_0.length : Int) - 1))).bind fun t147 => (qaE.j0 k (l0_0.length : Int) t147 l0_0 l0_1 l0_2 a0_3 a0_4)) else (qaE.j0 k (l0_0.length : Int) false l0_0 l0_1 l0_2 a0_3 a0_4))) else (qaE.j0 k (l0_0.length : Int) false l0_0 l0_1 l0_2 a0_3 a0_4)) else (qaE.j0 k (l0_0.length : Int) false l0_0 l0_1 l0_2 a0_3 a0_4)) else (qaE.j0 k (l0_0.length : Int) false l0_0 l0_1 l0_2 a0_3 a0_4))
set_option maxHeartbeats 8000000 in
set_option maxRecDepth 100000 in
theorem qaE.calls (k : Nat) (A0_0 : Option Addr) (c0_0 : Nat) (l0_0 : List Int) (A0_1 : Option Addr) (c0_1 : Nat) (l0_1 : List Int) (A0_2 : Option Addr) (c0_2 : Nat) (l0_2 : List Int) (a0_3 : Int) (a0_4 : Int) (r : Bool) (w : World) (qef : Kd.C (Kd.int .i64) w A0_0 l0_0.length l0_0) (qem : l0_0.length ≤ c0_0) (qeg : Kd.C (Kd.int .i64) w A0_1 l0_1.length l0_1) (qen : l0_1.length ≤ c0_1) (qeh : Kd.C (Kd.int .i64) w A0_2 l0_2.length l0_2) (qeo : l0_2.length ≤ c0_2) (h : qaE.f k l0_0 l0_1 l0_2 a0_3 a0_4 = some r) :
  Calls Try.prog 76 #[.agg #[.slice A0_0 l0_0.length c0_0, .slice A0_1 l0_1.length c0_1, .slice A0_2 l0_2.length c0_2, .int .i64 a0_3, .int .i64 a0_4]] w fun e w' => e = .returned (.bool r) ∧ Below w.heap.size w w' := by
 have qpB := Try.underlying111
 have qdr := qaa.mk qef
 have qdH := qaa.mk qem
 clear qef qem
 have qdu := qaa.mk qeg
 have qdI := qaa.mk qen
 clear qeg qen
 have qdv := qaa.mk qeh
 have qdJ := qaa.mk qeo
 clear qeh qeo
 have HB := qaa.mk (Below.refl w.heap.size w)
 have H : ((qaD.f (l0_0.length : Int) 1 6).bind fun t145 => (if t145 = true then (if (l0_1.length : Int) = (l0_0.length : Int) then (if (l0_2.length : Int) = (l0_0.length : Int) then ((qaD.f a0_3 0 100000000).bind fun t146 => (if t146 = true then ((qaD.f a0_4 0 (wrap64 ((l0_0.length : Int) - 1))).bind fun t147 => (qaE.j0 k (l0_0.length : Int) t147 l0_0 l0_1 l0_2 a0_3 a0_4)) else (qaE.j0 k (l0_0.length : Int) false l0_0 l0_1 l0_2 a0_3 a0_4))) else (qaE.j0 k (l0_0.length : Int) false l0_0 l0_1 l0_2 a0_3 a0_4)) else (qaE.j0 k (l0_0.length : Int) false l0_0 l0_1 l0_2 a0_3 a0_4)) else (qaE.j0 k (l0_0.length : Int) false l0_0 l0_1 l0_2 a0_3 a0_4))) = some r := h
 clear h
 have HC2 := qaa.mk H
 clear H
 go_enter Try.func76, Try.ntmps76
 go_upto_region 2 with (first | ((with_reducible refine qa1 (N := 1) rfl ?_); (try (refine qdF (by rfl) ?_; dsimp only)); refine qbq ?hg (N := 1) ?hd (cs := #[.slice A0_0 l0_0.length c0_0, .slice A0_1 l0_1.length c0_1, .slice A0_2 l0_2.length c0_2, .int .i64 a0_3, .int .i64 a0_4]) (t := 111) ?hr ?_; (case hd => rfl); (case hg => rfl); (case hr => first | (go_simp; done) | (go_simp; rfl)); intro qcH hg w3 hbox hb; have n0_ := qaa.mk (qaA (by repeat (first | (with_reducible first | exact HB.out | apply qag | apply qad | apply qah) | exact HB.out)) hb); have n1_ := qaa.mk (hbox); have n2_ := qaa.mk ((by rw [hg]; exact (qav (by repeat (first | (with_reducible first | exact HB.out | apply qag | apply qad | apply qah) | exact HB.out))) : w.heap.size ≤ qcH)); have n3_ := qaa.mk ((by rw [hg]; exact (qav (by repeat (first | (with_reducible first | exact HB.out | apply qag | apply qad | apply qah) | exact HB.out))) : w.heap.size ≤ qcH)); clear HB; have HB := n0_; have qbm := n1_; have qCs := n2_; have qgM := n3_; clear n0_ n1_ n2_ n3_; clear hb hbox hg; have qeL : w3.cell? ⟨qcH, 0, none⟩ = some (.slice A0_0 l0_0.length c0_0) := (qai qbm.out 0).trans rfl; have qeM : w3.cell? ⟨qcH, 1, none⟩ = some (.slice A0_1 l0_1.length c0_1) := (qai qbm.out 1).trans rfl; have qe0 : w3.cell? ⟨qcH, 2, none⟩ = some (.slice A0_2 l0_2.length c0_2) := (qai qbm.out 2).trans rfl; have qn8 : w3.cell? ⟨qcH, 3, none⟩ = some (.int .i64 a0_3) := (qai qbm.out 3).trans rfl; have qn9 : w3.cell? ⟨qcH, 4, none⟩ = some (.int .i64 a0_4) := (qai qbm.out 4).trans rfl; have qeN := qaj qbm.out 0; have qeO := qaj qbm.out 1; have qe2 := qaj qbm.out 2; have qoc := qaj qbm.out 3; have qod := qaj qbm.out 4))
 (try simp only [qaq, qam, qap, qao, qan])
 go_cut [4] (fun v4 wc => ∃ (kq : Nat) (x4_1 : Bool), v4 = .bool x4_1 ∧ qaa (qaE.j0 kq (l0_0.length : Int) x4_1 l0_0 l0_1 l0_2 a0_3 a0_4 = some r) ∧ qaa (kq ≤ k) ∧ qaa (wc.heap[qcH]? = some (.cells #[(.slice A0_0 l0_0.length c0_0), (.slice A0_1 l0_1.length c0_1), (.slice A0_2 l0_2.length c0_2), .int .i64 a0_3, .int .i64 a0_4] 111 (0, 0))) ∧ qaa (Below w.heap.size w wc))
 case first =>
  have H := HC2.out
  clear HC2
  replace H := Option.bind_eq_some_iff.mp H
  obtain ⟨t145, A50, H⟩ := H
  replace H : (if t145 = true then (if (l0_1.length : Int) = (l0_0.length : Int) then (if (l0_2.length : Int) = (l0_0.length : Int) then ((qaD.f a0_3 0 100000000).bind fun t146 => (if t146 = true then ((qaD.f a0_4 0 (wrap64 ((l0_0.length : Int) - 1))).bind fun t147 => (qaE.j0 k (l0_0.length : Int) t147 l0_0 l0_1 l0_2 a0_3 a0_4)) else (qaE.j0 k (l0_0.length : Int) false l0_0 l0_1 l0_2 a0_3 a0_4))) else (qaE.j0 k (l0_0.length : Int) false l0_0 l0_1 l0_2 a0_3 a0_4)) else (qaE.j0 k (l0_0.length : Int) false l0_0 l0_1 l0_2 a0_3 a0_4)) else (qaE.j0 k (l0_0.length : Int) false l0_0 l0_1 l0_2 a0_3 a0_4)) = some r := H
  have A5 := qaa.mk A50
  clear A50
  by_cases c6 : t145 = true
  ·
   subst c6
   have H1 : (if (l0_1.length : Int) = (l0_0.length : Int) then (if (l0_2.length : Int) = (l0_0.length : Int) then ((qaD.f a0_3 0 100000000).bind fun t146 => (if t146 = true then ((qaD.f a0_4 0 (wrap64 ((l0_0.length : Int) - 1))).bind fun t147 => (qaE.j0 k (l0_0.length : Int) t147 l0_0 l0_1 l0_2 a0_3 a0_4)) else (qaE.j0 k (l0_0.length : Int) false l0_0 l0_1 l0_2 a0_3 a0_4))) else (qaE.j0 k (l0_0.length : Int) false l0_0 l0_1 l0_2 a0_3 a0_4)) else (qaE.j0 k (l0_0.length : Int) false l0_0 l0_1 l0_2 a0_3 a0_4)) = some r := by rw [if_pos rfl] at H; exact H
   clear H
   have H := H1
   clear H1
   by_cases c7 : (l0_1.length : Int) = (l0_0.length : Int)
   ·
    rw [if_pos c7] at H; have c7b0 : ((l0_1.length : Int) == (l0_0.length : Int)) = true := beq_iff_eq.mpr c7; have c7b1 : ((l0_1.length : Int) != (l0_0.length : Int)) = false := bne_eq_false_iff_eq.mpr c7
    have c7b2 : (l0_1.length == l0_0.length) = true := by first | simpa using c7 | (simp at c7 ⊢; omega)
    clear c7
    (first | rw [c7b0] | (simp only [qaB, qaC]; rw [c7b0]) | skip)
    by_cases c8 : (l0_2.length : Int) = (l0_0.length : Int)
    ·
     rw [if_pos c8] at H; have c8b0 : ((l0_2.length : Int) == (l0_0.length : Int)) = true := beq_iff_eq.mpr c8; have c8b1 : ((l0_2.length : Int) != (l0_0.length : Int)) = false := bne_eq_false_iff_eq.mpr c8
     have c8b2 : (l0_2.length == l0_0.length) = true := by first | simpa using c8 | (simp at c8 ⊢; omega)
     clear c8; replace H := Option.bind_eq_some_iff.mp H; obtain ⟨t146, A90, H⟩ := H; replace H : (if t146 = true then ((qaD.f a0_4 0 (wrap64 ((l0_0.length : Int) - 1))).bind fun t147 => (qaE.j0 k (l0_0.length : Int) t147 l0_0 l0_1 l0_2 a0_3 a0_4)) else (qaE.j0 k (l0_0.length : Int) false l0_0 l0_1 l0_2 a0_3 a0_4)) = some r := H; have A9 := qaa.mk A90; clear A90
     by_cases c10 : t146 = true
     ·
      subst c10
      have H1 : ((qaD.f a0_4 0 (wrap64 ((l0_0.length : Int) - 1))).bind fun t147 => (qaE.j0 k (l0_0.length : Int) t147 l0_0 l0_1 l0_2 a0_3 a0_4)) = some r := by rw [if_pos rfl] at H; exact H
      clear H; have H := H1; clear H1; replace H := Option.bind_eq_some_iff.mp H; obtain ⟨t147, A110, H⟩ := H; replace H : (qaE.j0 k (l0_0.length : Int) t147 l0_0 l0_1 l0_2 a0_3 a0_4) = some r := H; have A11 := qaa.mk A110; clear A110; have H' := qaa.mk H; clear H
      go_wp2_with (first | ((with_reducible refine qaT (f := 65) rfl ?_); refine qbs (some 11) rfl rfl Try.func65 (by kernel_rfl) rfl #[.int .i64 (l0_0.length : Int), .int .i64 1, .int .i64 6] rfl (by (try simp only [List.map_toArray, List.map_cons, List.map_nil]); first | done | rfl | (simp only [List.length_drop, List.length_take]; rfl)) ?_; (with_reducible refine (qaD.calls (l0_0.length : Int) 1 6 true _ A5.out).mono ?_); rintro e w' ⟨rfl, ⟨nd, rfl⟩⟩; refine ⟨_, rfl, ?_⟩; have qjc : w3.cell? ⟨qcH, 0, none⟩ = some (.slice A0_0 l0_0.length c0_0) := (qai qbm.out 0).trans rfl; have qjd : w3.cell? ⟨qcH, 1, none⟩ = some (.slice A0_1 l0_1.length c0_1) := (qai qbm.out 1).trans rfl; have qkz : w3.cell? ⟨qcH, 2, none⟩ = some (.slice A0_2 l0_2.length c0_2) := (qai qbm.out 2).trans rfl; have qmA : w3.cell? ⟨qcH, 3, none⟩ = some (.int .i64 a0_3) := (qai qbm.out 3).trans rfl; have qmB : w3.cell? ⟨qcH, 4, none⟩ = some (.int .i64 a0_4) := (qai qbm.out 4).trans rfl; have qjo := qaj qbm.out 0; have qjp := qaj qbm.out 1; have qkK := qaj qbm.out 2; have qmI := qaj qbm.out 3; have qmJ := qaj qbm.out 4) | (go_at_call 65; (with_reducible refine (qaD.calls a0_3 0 100000000 true _ A9.out).mono ?_); rintro e w' ⟨rfl, ⟨nd, rfl⟩⟩) | (go_at_call 65; (with_reducible refine (qaD.calls a0_4 0 (wrap64 ((l0_0.length : Int) - 1)) t147 _ A11.out).mono ?_); rintro e w' ⟨rfl, ⟨nd, rfl⟩⟩))
      go_meet
      case rel => exact ⟨_, (t147), (by first | rfl | (simp; done) | (simp [*]; done)), H', ⟨by first | omega | exact Nat.le_refl _⟩, ⟨by (with_reducible repeat (first | refine qac ?_ _ | refine qae ?_ | refine qab ?_ _)); exact qbm.out⟩, ⟨by repeat (first | (with_reducible first | exact HB.out | apply qag | apply qad | apply qah | refine qaf ?_ qgM.out) | exact HB.out)⟩⟩
     replace c10 := Bool.eq_false_iff.mpr c10; subst c10
     have H1 : (qaE.j0 k (l0_0.length : Int) false l0_0 l0_1 l0_2 a0_3 a0_4) = some r := by rw [if_neg (show ¬ (false = true) by decide)] at H; exact H
     clear H; have H := H1; clear H1; have H' := qaa.mk H; clear H
     go_wp2_with (first | ((with_reducible refine qaT (f := 65) rfl ?_); refine qbs (some 11) rfl rfl Try.func65 (by kernel_rfl) rfl #[.int .i64 (l0_0.length : Int), .int .i64 1, .int .i64 6] rfl (by (try simp only [List.map_toArray, List.map_cons, List.map_nil]); first | done | rfl | (simp only [List.length_drop, List.length_take]; rfl)) ?_; (with_reducible refine (qaD.calls (l0_0.length : Int) 1 6 true _ A5.out).mono ?_); rintro e w' ⟨rfl, ⟨nd, rfl⟩⟩; refine ⟨_, rfl, ?_⟩; have qgS : w3.cell? ⟨qcH, 0, none⟩ = some (.slice A0_0 l0_0.length c0_0) := (qai qbm.out 0).trans rfl; have qgT : w3.cell? ⟨qcH, 1, none⟩ = some (.slice A0_1 l0_1.length c0_1) := (qai qbm.out 1).trans rfl; have qgU : w3.cell? ⟨qcH, 2, none⟩ = some (.slice A0_2 l0_2.length c0_2) := (qai qbm.out 2).trans rfl; have qmC : w3.cell? ⟨qcH, 3, none⟩ = some (.int .i64 a0_3) := (qai qbm.out 3).trans rfl; have qmD : w3.cell? ⟨qcH, 4, none⟩ = some (.int .i64 a0_4) := (qai qbm.out 4).trans rfl; have qg2 := qaj qbm.out 0; have qg3 := qaj qbm.out 1; have qg4 := qaj qbm.out 2; have qmK := qaj qbm.out 3; have qmL := qaj qbm.out 4) | (go_at_call 65; (with_reducible refine (qaD.calls a0_3 0 100000000 false _ A9.out).mono ?_); rintro e w' ⟨rfl, ⟨nd, rfl⟩⟩))
     go_meet
     case rel => exact ⟨_, (false), (by first | rfl | (simp; done) | (simp [*]; done)), H', ⟨by first | omega | exact Nat.le_refl _⟩, ⟨by (with_reducible repeat (first | refine qac ?_ _ | refine qae ?_ | refine qab ?_ _)); exact qbm.out⟩, ⟨by repeat (first | (with_reducible first | exact HB.out | apply qag | apply qad | apply qah | refine qaf ?_ qgM.out) | exact HB.out)⟩⟩
    rw [if_neg c8] at H; have c8b0 : ((l0_2.length : Int) == (l0_0.length : Int)) = false := beq_eq_false_iff_ne.mpr c8; have c8b1 : ((l0_2.length : Int) != (l0_0.length : Int)) = true := bne_iff_ne.mpr c8
    have c8b2 : (l0_2.length == l0_0.length) = false := by first | simpa using c8 | (simp at c8 ⊢; omega)
    have H' := qaa.mk H; clear H
    go_wp2_with (first | ((with_reducible refine qaT (f := 65) rfl ?_); refine qbs (some 11) rfl rfl Try.func65 (by kernel_rfl) rfl #[.int .i64 (l0_0.length : Int), .int .i64 1, .int .i64 6] rfl (by (try simp only [List.map_toArray, List.map_cons, List.map_nil]); first | done | rfl | (simp only [List.length_drop, List.length_take]; rfl)) ?_; (with_reducible refine (qaD.calls (l0_0.length : Int) 1 6 true _ A5.out).mono ?_); rintro e w' ⟨rfl, ⟨nd, rfl⟩⟩; refine ⟨_, rfl, ?_⟩; have qep : w3.cell? ⟨qcH, 0, none⟩ = some (.slice A0_0 l0_0.length c0_0) := (qai qbm.out 0).trans rfl; have qeq : w3.cell? ⟨qcH, 1, none⟩ = some (.slice A0_1 l0_1.length c0_1) := (qai qbm.out 1).trans rfl; have qgV : w3.cell? ⟨qcH, 2, none⟩ = some (.slice A0_2 l0_2.length c0_2) := (qai qbm.out 2).trans rfl; have qmE : w3.cell? ⟨qcH, 3, none⟩ = some (.int .i64 a0_3) := (qai qbm.out 3).trans rfl; have qmF : w3.cell? ⟨qcH, 4, none⟩ = some (.int .i64 a0_4) := (qai qbm.out 4).trans rfl; have qet := qaj qbm.out 0; have qeu := qaj qbm.out 1; have qg5 := qaj qbm.out 2; have qmM := qaj qbm.out 3; have qmN := qaj qbm.out 4))
    go_meet
    case rel => exact ⟨_, (false), (by first | rfl | (simp; done) | (simp [*]; done)), H', ⟨by first | omega | exact Nat.le_refl _⟩, ⟨by (with_reducible repeat (first | refine qac ?_ _ | refine qae ?_ | refine qab ?_ _)); exact qbm.out⟩, ⟨by repeat (first | (with_reducible first | exact HB.out | apply qag | apply qad | apply qah | refine qaf ?_ qgM.out) | exact HB.out)⟩⟩
   rw [if_neg c7] at H
   have c7b0 : ((l0_1.length : Int) == (l0_0.length : Int)) = false := beq_eq_false_iff_ne.mpr c7
   have c7b1 : ((l0_1.length : Int) != (l0_0.length : Int)) = true := bne_iff_ne.mpr c7
   have c7b2 : (l0_1.length == l0_0.length) = false := by first | simpa using c7 | (simp at c7 ⊢; omega)
   (first | rw [c7b0] | (simp only [qaB, qaC]; rw [c7b0]) | skip)
   have H' := qaa.mk H
   clear H
   go_wp2_with (first | ((with_reducible refine qaT (f := 65) rfl ?_); refine qbs (some 11) rfl rfl Try.func65 (by kernel_rfl) rfl #[.int .i64 (l0_0.length : Int), .int .i64 1, .int .i64 6] rfl (by (try simp only [List.map_toArray, List.map_cons, List.map_nil]); first | done | rfl | (simp only [List.length_drop, List.length_take]; rfl)) ?_; (with_reducible refine (qaD.calls (l0_0.length : Int) 1 6 true _ A5.out).mono ?_); rintro e w' ⟨rfl, ⟨nd, rfl⟩⟩; refine ⟨_, rfl, ?_⟩; have qgq : w3.cell? ⟨qcH, 0, none⟩ = some (.slice A0_0 l0_0.length c0_0) := (qai qbm.out 0).trans rfl; have qgr : w3.cell? ⟨qcH, 1, none⟩ = some (.slice A0_1 l0_1.length c0_1) := (qai qbm.out 1).trans rfl; have qgW : w3.cell? ⟨qcH, 2, none⟩ = some (.slice A0_2 l0_2.length c0_2) := (qai qbm.out 2).trans rfl; have qgX : w3.cell? ⟨qcH, 3, none⟩ = some (.int .i64 a0_3) := (qai qbm.out 3).trans rfl; have qgY : w3.cell? ⟨qcH, 4, none⟩ = some (.int .i64 a0_4) := (qai qbm.out 4).trans rfl; have qgt := qaj qbm.out 0; have qgu := qaj qbm.out 1; have qg6 := qaj qbm.out 2; have qg7 := qaj qbm.out 3; have qg8 := qaj qbm.out 4))
   go_meet
   case rel => exact ⟨_, (false), (by first | rfl | (simp; done) | (simp [*]; done)), H', ⟨by first | omega | exact Nat.le_refl _⟩, ⟨by (with_reducible repeat (first | refine qac ?_ _ | refine qae ?_ | refine qab ?_ _)); exact qbm.out⟩, ⟨by repeat (first | (with_reducible first | exact HB.out | apply qag | apply qad | apply qah | refine qaf ?_ qgM.out) | exact HB.out)⟩⟩
  replace c6 := Bool.eq_false_iff.mpr c6
  subst c6
  have H1 : (qaE.j0 k (l0_0.length : Int) false l0_0 l0_1 l0_2 a0_3 a0_4) = some r := by rw [if_neg (show ¬ (false = true) by decide)] at H; exact H
  clear H
  have H := H1
  clear H1
  have H' := qaa.mk H
  clear H
  go_wp2_with (first | ((with_reducible refine qaT (f := 65) rfl ?_); refine qbs (some 11) rfl rfl Try.func65 (by kernel_rfl) rfl #[.int .i64 (l0_0.length : Int), .int .i64 1, .int .i64 6] rfl (by (try simp only [List.map_toArray, List.map_cons, List.map_nil]); first | done | rfl | (simp only [List.length_drop, List.length_take]; rfl)) ?_; (with_reducible refine (qaD.calls (l0_0.length : Int) 1 6 false _ A5.out).mono ?_); rintro e w' ⟨rfl, ⟨nd, rfl⟩⟩; refine ⟨_, rfl, ?_⟩))
  go_meet
  case rel => exact ⟨_, (false), (by first | rfl | (simp; done) | (simp [*]; done)), H', ⟨by first | omega | exact Nat.le_refl _⟩, ⟨by (with_reducible repeat (first | refine qac ?_ _ | refine qae ?_ | refine qab ?_ _)); exact qbm.out⟩, ⟨by repeat (first | (with_reducible first | exact HB.out | apply qag | apply qad | apply qah | refine qaf ?_ qgM.out) | exact HB.out)⟩⟩
 clear HC2
 try clear c1
 try clear p2
 try clear c6
 try clear p6
 try clear c7
 try clear c7b0
 try clear c7b1
 try clear c7b2
 try clear c8
 try clear c8b0
 try clear c8b1
 try clear c8b2
 try clear c10
 try clear qjc
 try clear qjd
 try clear qkz
 try clear qmA
 try clear qmB
 try clear qgS
 try clear qgT
 try clear qgU
 try clear qmC
 try clear qmD
 try clear qep
 try clear qeq
 try clear qgV
 try clear qmE
 try clear qmF
 try clear qgq
 try clear qgr
 try clear qgW
 try clear qgX
 try clear qgY
 try clear qeL
 try clear qeM
 try clear qe0
 try clear qn8
 try clear qn9
 try clear qjo
 try clear qjp
 try clear qkK
 try clear qmI
 try clear qmJ
 try clear qg2
 try clear qg3
 try clear qg4
 try clear qmK
 try clear qmL
 try clear qet
 try clear qeu
 try clear qg5
 try clear qmM
 try clear qmN
 try clear qgt
 try clear qgu
 try clear qg6
 try clear qg7
 try clear qg8
 try clear qeN
 try clear qeO
 try clear qe2
 try clear qoc
 try clear qod
 obtain ⟨kq, x4_1, rfl, HA, HJ1, qbm, HB⟩ := hcut
 cases kq with
 | zero => exact absurd HA.out (by simp [qaE.j0])
 | succ kj1 =>
  have H := HA.out
  clear HA
  simp only [qaE.j0] at H
  have H' := qaa.mk H
  clear H
  go_wp2
  go_loopg [4, 5] kj1 (fun kq v4 v5 w' => ∃ (x4_2 : Bool) (x5_2 : Int), v4 = .bool x4_2 ∧ v5 = .int .i64 x5_2 ∧ qaa (qaE.l0 kq (l0_0.length : Int) x4_2 x5_2 l0_0 l0_1 l0_2 a0_3 a0_4 = some r) ∧ qaa (kq ≤ kj1) ∧ qaa (w'.heap[qcH]? = some (.cells #[(.slice A0_0 l0_0.length c0_0), (.slice A0_1 l0_1.length c0_1), (.slice A0_2 l0_2.length c0_2), .int .i64 a0_3, .int .i64 a0_4] 111 (0, 0))) ∧ qaa (Below w.heap.size w w'))
  case atStart => exact ⟨(x4_1), (0), (by first | rfl | (simp; done) | (simp [*]; done)), (by first | rfl | (simp; done) | (simp [*]; done)), H', ⟨Nat.le_refl _⟩, ⟨by (with_reducible repeat (first | refine qac ?_ _ | refine qae ?_ | refine qab ?_ _)); exact qbm.out⟩, ⟨by repeat (first | (with_reducible first | exact HB.out | apply qag | apply qad | apply qah | refine qaf ?_ qgM.out) | exact HB.out)⟩⟩
  clear H'
  try clear c1
  try clear p2
  try clear c6
  try clear p6
  try clear c7
  try clear c7b0
  try clear c7b1
  try clear c7b2
  try clear c8
  try clear c8b0
  try clear c8b1
  try clear c8b2
  try clear c10
  try clear qjc
  try clear qjd
  try clear qkz
  try clear qmA
  try clear qmB
  try clear qgS
  try clear qgT
  try clear qgU
  try clear qmC
  try clear qmD
  try clear qep
  try clear qeq
  try clear qgV
  try clear qmE
  try clear qmF
  try clear qgq
  try clear qgr
  try clear qgW
  try clear qgX
  try clear qgY
  try clear qeL
  try clear qeM
  try clear qe0
  try clear qn8
  try clear qn9
  try clear qjo
  try clear qjp
  try clear qkK
  try clear qmI
  try clear qmJ
  try clear qg2
  try clear qg3
  try clear qg4
  try clear qmK
  try clear qmL
  try clear qet
  try clear qeu
  try clear qg5
  try clear qmM
  try clear qmN
  try clear qgt
  try clear qgu
  try clear qg6
  try clear qg7
  try clear qg8
  try clear qeN
  try clear qeO
  try clear qe2
  try clear qoc
  try clear qod
  try clear p2
  try clear p6
  obtain ⟨x4_2, x5_2, rfl, rfl, HA, HK2, qbm, HB⟩ := hrel
  cases gk with
  | zero => exact absurd HA.out (by simp [qaE.l0])
  | succ k2 =>
   have H := HA.out
   clear HA
   simp only [qaE.l0] at H
   have HC16 := qaa.mk H
   clear H
   go_upto_region 4 with (fail)
   go_cut [47] (fun v47 wc => ∃ (kq : Nat) (qmm : Bool), v47 = .bool qmm ∧ qaa (qaE.j2 kq (l0_0.length : Int) x4_2 x5_2 qmm l0_0 l0_1 l0_2 a0_3 a0_4 = some r) ∧ qaa (kq ≤ k2) ∧ qaa (wc.heap[qcH]? = some (.cells #[(.slice A0_0 l0_0.length c0_0), (.slice A0_1 l0_1.length c0_1), (.slice A0_2 l0_2.length c0_2), .int .i64 a0_3, .int .i64 a0_4] 111 (0, 0))) ∧ qaa (Below w.heap.size w wc))
   case first =>
    have H := HC16.out; clear HC16
    by_cases c17 : x4_2 = true
    ·
     subst c17
     have H1 : (qaE.j2 k2 (l0_0.length : Int) true x5_2 (decide (x5_2 < (l0_0.length : Int))) l0_0 l0_1 l0_2 a0_3 a0_4) = some r := by rw [if_pos rfl] at H; exact H
     clear H; have H := H1; clear H1; have H' := qaa.mk H; clear H
     go_wp2
     go_meet
     case rel => exact ⟨_, (decide (x5_2 < (l0_0.length : Int))), (by first | rfl | (simp; done) | (simp [*]; done)), H', ⟨by have := HJ1.out; have := HK2.out; first | omega | exact Nat.le_refl _⟩, ⟨by (with_reducible repeat (first | refine qac ?_ _ | refine qae ?_ | refine qab ?_ _)); exact qbm.out⟩, ⟨by repeat (first | (with_reducible first | exact HB.out | apply qag | apply qad | apply qah | refine qaf ?_ qgM.out) | exact HB.out)⟩⟩
    replace c17 := Bool.eq_false_iff.mpr c17; subst c17
    have H1 : (qaE.j2 k2 (l0_0.length : Int) false x5_2 false l0_0 l0_1 l0_2 a0_3 a0_4) = some r := by rw [if_neg (show ¬ (false = true) by decide)] at H; exact H
    clear H; have H := H1; clear H1; have H' := qaa.mk H; clear H
    go_wp2
    go_meet
    case rel => exact ⟨_, (false), (by first | rfl | (simp; done) | (simp [*]; done)), H', ⟨by have := HJ1.out; have := HK2.out; first | omega | exact Nat.le_refl _⟩, ⟨by (with_reducible repeat (first | refine qac ?_ _ | refine qae ?_ | refine qab ?_ _)); exact qbm.out⟩, ⟨by repeat (first | (with_reducible first | exact HB.out | apply qag | apply qad | apply qah | refine qaf ?_ qgM.out) | exact HB.out)⟩⟩
   clear HC16
   try clear c1
   try clear p2
   try clear c6
   try clear p6
   try clear c7
   try clear c7b0
   try clear c7b1
   try clear c7b2
   try clear c8
   try clear c8b0
   try clear c8b1
   try clear c8b2
   try clear c10
   try clear c17
   try clear qjc
   try clear qjd
   try clear qkz
   try clear qmA
   try clear qmB
   try clear qgS
   try clear qgT
   try clear qgU
   try clear qmC
   try clear qmD
   try clear qep
   try clear qeq
   try clear qgV
   try clear qmE
   try clear qmF
   try clear qgq
   try clear qgr
   try clear qgW
   try clear qgX
   try clear qgY
   try clear qeL
   try clear qeM
   try clear qe0
   try clear qn8
   try clear qn9
   try clear qjo
   try clear qjp
   try clear qkK
   try clear qmI
   try clear qmJ
   try clear qg2
   try clear qg3
   try clear qg4
   try clear qmK
   try clear qmL
   try clear qet
   try clear qeu
   try clear qg5
   try clear qmM
   try clear qmN
   try clear qgt
   try clear qgu
   try clear qg6
   try clear qg7
   try clear qg8
   try clear qeN
   try clear qeO
   try clear qe2
   try clear qoc
   try clear qod
   try clear p2
   try clear p6
   obtain ⟨kq, qmm, rfl, HA, HJ15, qbm, HB⟩ := hcut
   cases kq with
   | zero => exact absurd HA.out (by simp [qaE.j2])
   | succ kj15 =>
    have H := HA.out; clear HA; simp only [qaE.j2] at H
    by_cases c18 : qmm = true
    ·
     subst c18
     have H1 : (if 0 ≤ x5_2 then (if x5_2 < (l0_0.length : Int) then ((qaD.f (rd l0_0 x5_2) 0 100000).bind fun t149 => (if t149 = true then (if x5_2 < (l0_1.length : Int) then ((qaD.f (rd l0_1 x5_2) 0 1000).bind fun t151 => (if t151 = true then (if x5_2 < (l0_2.length : Int) then ((qaD.f (rd l0_2 x5_2) 0 100).bind fun t153 => (qaE.l0 kj15 (l0_0.length : Int) t153 (wrap64 (x5_2 + 1)) l0_0 l0_1 l0_2 a0_3 a0_4)) else (none)) else (qaE.l0 kj15 (l0_0.length : Int) false (wrap64 (x5_2 + 1)) l0_0 l0_1 l0_2 a0_3 a0_4))) else (none)) else (qaE.l0 kj15 (l0_0.length : Int) false (wrap64 (x5_2 + 1)) l0_0 l0_1 l0_2 a0_3 a0_4))) else (none)) else (none)) = some r := by rw [if_pos rfl] at H; exact H
     clear H; have H := H1; clear H1
     by_cases c19 : 0 ≤ x5_2
     ·
      rw [if_pos c19] at H; have c19b0 : decide (0 ≤ x5_2) = true := decide_eq_true c19; clear c19
      by_cases c20 : x5_2 < (l0_0.length : Int)
      ·
       rw [if_pos c20] at H; have c20b0 : decide (x5_2 < (l0_0.length : Int)) = true := decide_eq_true c20; clear c20; replace H := Option.bind_eq_some_iff.mp H; obtain ⟨t149, A210, H⟩ := H; replace H : (if t149 = true then (if x5_2 < (l0_1.length : Int) then ((qaD.f (rd l0_1 x5_2) 0 1000).bind fun t151 => (if t151 = true then (if x5_2 < (l0_2.length : Int) then ((qaD.f (rd l0_2 x5_2) 0 100).bind fun t153 => (qaE.l0 kj15 (l0_0.length : Int) t153 (wrap64 (x5_2 + 1)) l0_0 l0_1 l0_2 a0_3 a0_4)) else (none)) else (qaE.l0 kj15 (l0_0.length : Int) false (wrap64 (x5_2 + 1)) l0_0 l0_1 l0_2 a0_3 a0_4))) else (none)) else (qaE.l0 kj15 (l0_0.length : Int) false (wrap64 (x5_2 + 1)) l0_0 l0_1 l0_2 a0_3 a0_4)) = some r := H; have A21 := qaa.mk A210; clear A210
       by_cases c22 : t149 = true
       ·
        subst c22
        have H1 : (if x5_2 < (l0_1.length : Int) then ((qaD.f (rd l0_1 x5_2) 0 1000).bind fun t151 => (if t151 = true then (if x5_2 < (l0_2.length : Int) then ((qaD.f (rd l0_2 x5_2) 0 100).bind fun t153 => (qaE.l0 kj15 (l0_0.length : Int) t153 (wrap64 (x5_2 + 1)) l0_0 l0_1 l0_2 a0_3 a0_4)) else (none)) else (qaE.l0 kj15 (l0_0.length : Int) false (wrap64 (x5_2 + 1)) l0_0 l0_1 l0_2 a0_3 a0_4))) else (none)) = some r := by rw [if_pos rfl] at H; exact H
        clear H; have H := H1; clear H1
        by_cases c23 : x5_2 < (l0_1.length : Int)
        ·
         rw [if_pos c23] at H; have c23b0 : decide (x5_2 < (l0_1.length : Int)) = true := decide_eq_true c23; clear c23; replace H := Option.bind_eq_some_iff.mp H; obtain ⟨t151, A240, H⟩ := H; replace H : (if t151 = true then (if x5_2 < (l0_2.length : Int) then ((qaD.f (rd l0_2 x5_2) 0 100).bind fun t153 => (qaE.l0 kj15 (l0_0.length : Int) t153 (wrap64 (x5_2 + 1)) l0_0 l0_1 l0_2 a0_3 a0_4)) else (none)) else (qaE.l0 kj15 (l0_0.length : Int) false (wrap64 (x5_2 + 1)) l0_0 l0_1 l0_2 a0_3 a0_4)) = some r := H; have A24 := qaa.mk A240; clear A240
         by_cases c25 : t151 = true
         ·
          subst c25
          have H1 : (if x5_2 < (l0_2.length : Int) then ((qaD.f (rd l0_2 x5_2) 0 100).bind fun t153 => (qaE.l0 kj15 (l0_0.length : Int) t153 (wrap64 (x5_2 + 1)) l0_0 l0_1 l0_2 a0_3 a0_4)) else (none)) = some r := by rw [if_pos rfl] at H; exact H
          clear H; have H := H1; clear H1
          by_cases c26 : x5_2 < (l0_2.length : Int)
          ·
           rw [if_pos c26] at H; have c26b0 : decide (x5_2 < (l0_2.length : Int)) = true := decide_eq_true c26; clear c26; replace H := Option.bind_eq_some_iff.mp H; obtain ⟨t153, A270, H⟩ := H; replace H : (qaE.l0 kj15 (l0_0.length : Int) t153 (wrap64 (x5_2 + 1)) l0_0 l0_1 l0_2 a0_3 a0_4) = some r := H; have A27 := qaa.mk A270; clear A270; have H' := qaa.mk H; clear H; have qmG : wc.cell? ⟨qcH, 0, none⟩ = some (.slice A0_0 l0_0.length c0_0) := (qai qbm.out 0).trans rfl; have qmH : wc.cell? ⟨qcH, 1, none⟩ = some (.slice A0_1 l0_1.length c0_1) := (qai qbm.out 1).trans rfl; have qwp : wc.cell? ⟨qcH, 2, none⟩ = some (.slice A0_2 l0_2.length c0_2) := (qai qbm.out 2).trans rfl; have qwq : wc.cell? ⟨qcH, 3, none⟩ = some (.int .i64 a0_3) := (qai qbm.out 3).trans rfl; have qwr : wc.cell? ⟨qcH, 4, none⟩ = some (.int .i64 a0_4) := (qai qbm.out 4).trans rfl; have qmO := qaj qbm.out 0; have qmP := qaj qbm.out 1; have qyp := qaj qbm.out 2; have qyq := qaj qbm.out 3; have qyr := qaj qbm.out 4; have p148 : 0 ≤ (x5_2 : Int) := of_decide_eq_true (by first | (with_reducible assumption) | assumption); have q148 : x5_2 < (l0_0.length : Int) := of_decide_eq_true (by first | (with_reducible assumption) | assumption); obtain ⟨qrq, e148, qfI⟩ := Kd.at_int qdr.out x5_2 p148 q148; cases e148; replace qfI := (HB.out.cell (World.block_lt_of_cell? w _ qfI)).trans qfI; replace p148 := eq_true p148; replace q148 := eq_true q148
           go_wp2_with (first | ((with_reducible refine qaT (f := 65) rfl ?_); refine qbs (some 56) rfl rfl Try.func65 (by kernel_rfl) rfl #[.int .i64 (rd l0_0 x5_2), .int .i64 0, .int .i64 100000] rfl (by (try simp only [List.map_toArray, List.map_cons, List.map_nil]); first | done | rfl | (simp only [List.length_drop, List.length_take]; rfl)) ?_; (with_reducible refine (qaD.calls (rd l0_0 x5_2) 0 100000 true _ A21.out).mono ?_); rintro e w' ⟨rfl, ⟨nd, rfl⟩⟩; refine ⟨_, rfl, ?_⟩; have p150 : 0 ≤ (x5_2 : Int) := of_decide_eq_true (by first | (with_reducible assumption) | assumption); have q150 : x5_2 < (l0_1.length : Int) := of_decide_eq_true (by first | (with_reducible assumption) | assumption); obtain ⟨quj, e150, qhO⟩ := Kd.at_int qdu.out x5_2 p150 q150; cases e150; replace qhO := (HB.out.cell (World.block_lt_of_cell? w _ qhO)).trans qhO; replace p150 := eq_true p150; replace q150 := eq_true q150) | (go_at_call 65; (with_reducible refine (qaD.calls (rd l0_1 x5_2) 0 1000 true _ A24.out).mono ?_); rintro e w' ⟨rfl, ⟨nd, rfl⟩⟩; have p152 : 0 ≤ (x5_2 : Int) := of_decide_eq_true (by first | (with_reducible assumption) | assumption); have q152 : x5_2 < (l0_2.length : Int) := of_decide_eq_true (by first | (with_reducible assumption) | assumption); obtain ⟨qCJ, e152, qmQ⟩ := Kd.at_int qdv.out x5_2 p152 q152; cases e152; replace qmQ := (HB.out.cell (World.block_lt_of_cell? w _ qmQ)).trans qmQ; replace p152 := eq_true p152; replace q152 := eq_true q152) | (go_at_call 65; (with_reducible refine (qaD.calls (rd l0_2 x5_2) 0 100 t153 _ A27.out).mono ?_); rintro e w' ⟨rfl, ⟨nd, rfl⟩⟩))
           go_roundg kj15
           case measure => have := HJ1.out; have := HK2.out; have := HJ15.out; omega
           case rel => exact ⟨(t153), (wrap64 (x5_2 + 1)), (by first | rfl | (simp; done) | (simp [*]; done)), (by first | rfl | (simp; done) | (simp [*]; done)), H', ⟨by have := HJ1.out; have := HK2.out; have := HJ15.out; omega⟩, ⟨by (with_reducible repeat (first | refine qac ?_ _ | refine qae ?_ | refine qab ?_ _)); exact qbm.out⟩, ⟨by repeat (first | (with_reducible first | exact HB.out | apply qag | apply qad | apply qah | refine qaf ?_ qgM.out) | exact HB.out)⟩⟩
          rw [if_neg c26] at H
          exact absurd H (by simp)
         replace c25 := Bool.eq_false_iff.mpr c25; subst c25
         have H1 : (qaE.l0 kj15 (l0_0.length : Int) false (wrap64 (x5_2 + 1)) l0_0 l0_1 l0_2 a0_3 a0_4) = some r := by rw [if_neg (show ¬ (false = true) by decide)] at H; exact H
         clear H; have H := H1; clear H1; have H' := qaa.mk H; clear H; have qr4 : wc.cell? ⟨qcH, 0, none⟩ = some (.slice A0_0 l0_0.length c0_0) := (qai qbm.out 0).trans rfl; have qr5 : wc.cell? ⟨qcH, 1, none⟩ = some (.slice A0_1 l0_1.length c0_1) := (qai qbm.out 1).trans rfl; have qr6 : wc.cell? ⟨qcH, 2, none⟩ = some (.slice A0_2 l0_2.length c0_2) := (qai qbm.out 2).trans rfl; have qws : wc.cell? ⟨qcH, 3, none⟩ = some (.int .i64 a0_3) := (qai qbm.out 3).trans rfl; have qwt : wc.cell? ⟨qcH, 4, none⟩ = some (.int .i64 a0_4) := (qai qbm.out 4).trans rfl; have qsG := qaj qbm.out 0; have qsH := qaj qbm.out 1; have qsI := qaj qbm.out 2; have qys := qaj qbm.out 3; have qyt := qaj qbm.out 4; have p148 : 0 ≤ (x5_2 : Int) := of_decide_eq_true (by first | (with_reducible assumption) | assumption); have q148 : x5_2 < (l0_0.length : Int) := of_decide_eq_true (by first | (with_reducible assumption) | assumption); obtain ⟨qrq, e148, qfI⟩ := Kd.at_int qdr.out x5_2 p148 q148; cases e148; replace qfI := (HB.out.cell (World.block_lt_of_cell? w _ qfI)).trans qfI; replace p148 := eq_true p148; replace q148 := eq_true q148
         go_wp2_with (first | ((with_reducible refine qaT (f := 65) rfl ?_); refine qbs (some 56) rfl rfl Try.func65 (by kernel_rfl) rfl #[.int .i64 (rd l0_0 x5_2), .int .i64 0, .int .i64 100000] rfl (by (try simp only [List.map_toArray, List.map_cons, List.map_nil]); first | done | rfl | (simp only [List.length_drop, List.length_take]; rfl)) ?_; (with_reducible refine (qaD.calls (rd l0_0 x5_2) 0 100000 true _ A21.out).mono ?_); rintro e w' ⟨rfl, ⟨nd, rfl⟩⟩; refine ⟨_, rfl, ?_⟩; have p150 : 0 ≤ (x5_2 : Int) := of_decide_eq_true (by first | (with_reducible assumption) | assumption); have q150 : x5_2 < (l0_1.length : Int) := of_decide_eq_true (by first | (with_reducible assumption) | assumption); obtain ⟨quj, e150, qhO⟩ := Kd.at_int qdu.out x5_2 p150 q150; cases e150; replace qhO := (HB.out.cell (World.block_lt_of_cell? w _ qhO)).trans qhO; replace p150 := eq_true p150; replace q150 := eq_true q150) | (go_at_call 65; (with_reducible refine (qaD.calls (rd l0_1 x5_2) 0 1000 false _ A24.out).mono ?_); rintro e w' ⟨rfl, ⟨nd, rfl⟩⟩))
         go_roundg kj15
         case measure => have := HJ1.out; have := HK2.out; have := HJ15.out; omega
         case rel => exact ⟨(false), (wrap64 (x5_2 + 1)), (by first | rfl | (simp; done) | (simp [*]; done)), (by first | rfl | (simp; done) | (simp [*]; done)), H', ⟨by have := HJ1.out; have := HK2.out; have := HJ15.out; omega⟩, ⟨by (with_reducible repeat (first | refine qac ?_ _ | refine qae ?_ | refine qab ?_ _)); exact qbm.out⟩, ⟨by repeat (first | (with_reducible first | exact HB.out | apply qag | apply qad | apply qah | refine qaf ?_ qgM.out) | exact HB.out)⟩⟩
        rw [if_neg c23] at H
        exact absurd H (by simp)
       replace c22 := Bool.eq_false_iff.mpr c22; subst c22
       have H1 : (qaE.l0 kj15 (l0_0.length : Int) false (wrap64 (x5_2 + 1)) l0_0 l0_1 l0_2 a0_3 a0_4) = some r := by rw [if_neg (show ¬ (false = true) by decide)] at H; exact H
       clear H; have H := H1; clear H1; have H' := qaa.mk H; clear H; have qwu : wc.cell? ⟨qcH, 0, none⟩ = some (.slice A0_0 l0_0.length c0_0) := (qai qbm.out 0).trans rfl; have qwv : wc.cell? ⟨qcH, 1, none⟩ = some (.slice A0_1 l0_1.length c0_1) := (qai qbm.out 1).trans rfl; have qww : wc.cell? ⟨qcH, 2, none⟩ = some (.slice A0_2 l0_2.length c0_2) := (qai qbm.out 2).trans rfl; have qwx : wc.cell? ⟨qcH, 3, none⟩ = some (.int .i64 a0_3) := (qai qbm.out 3).trans rfl; have qwy : wc.cell? ⟨qcH, 4, none⟩ = some (.int .i64 a0_4) := (qai qbm.out 4).trans rfl; have qyu := qaj qbm.out 0; have qyv := qaj qbm.out 1; have qyw := qaj qbm.out 2; have qyx := qaj qbm.out 3; have qyy := qaj qbm.out 4; have p148 : 0 ≤ (x5_2 : Int) := of_decide_eq_true (by first | (with_reducible assumption) | assumption); have q148 : x5_2 < (l0_0.length : Int) := of_decide_eq_true (by first | (with_reducible assumption) | assumption); obtain ⟨qrq, e148, qfI⟩ := Kd.at_int qdr.out x5_2 p148 q148; cases e148; replace qfI := (HB.out.cell (World.block_lt_of_cell? w _ qfI)).trans qfI; replace p148 := eq_true p148; replace q148 := eq_true q148
       go_wp2_with (first | ((with_reducible refine qaT (f := 65) rfl ?_); refine qbs (some 56) rfl rfl Try.func65 (by kernel_rfl) rfl #[.int .i64 (rd l0_0 x5_2), .int .i64 0, .int .i64 100000] rfl (by (try simp only [List.map_toArray, List.map_cons, List.map_nil]); first | done | rfl | (simp only [List.length_drop, List.length_take]; rfl)) ?_; (with_reducible refine (qaD.calls (rd l0_0 x5_2) 0 100000 false _ A21.out).mono ?_); rintro e w' ⟨rfl, ⟨nd, rfl⟩⟩; refine ⟨_, rfl, ?_⟩))
       go_roundg kj15
       case measure => have := HJ1.out; have := HK2.out; have := HJ15.out; omega
       case rel => exact ⟨(false), (wrap64 (x5_2 + 1)), (by first | rfl | (simp; done) | (simp [*]; done)), (by first | rfl | (simp; done) | (simp [*]; done)), H', ⟨by have := HJ1.out; have := HK2.out; have := HJ15.out; omega⟩, ⟨by (with_reducible repeat (first | refine qac ?_ _ | refine qae ?_ | refine qab ?_ _)); exact qbm.out⟩, ⟨by repeat (first | (with_reducible first | exact HB.out | apply qag | apply qad | apply qah | refine qaf ?_ qgM.out) | exact HB.out)⟩⟩
      rw [if_neg c20] at H
      exact absurd H (by simp)
     rw [if_neg c19] at H
     exact absurd H (by simp)
    replace c18 := Bool.eq_false_iff.mpr c18; subst c18
    have H1 : (some x4_2) = some r := by rw [if_neg (show ¬ (false = true) by decide)] at H; exact H
    clear H; have H := H1; clear H1; obtain rfl := Option.some.inj H
    go_wp2
    go_ret
    exact ⟨by first | rfl | (simp [qaO, qaP] <;> rfl) | (simp [*, qaO, qaP] <;> rfl), by repeat (first | (with_reducible first | exact HB.out | apply qag | apply qad | apply qah | refine qaf ?_ qgM.out) | exact HB.out)⟩
end Go.Proofs.Ytmhomdohhihlcaa.P
namespace Go.Proofs.Ytmhomdohhihlcaa.P
open Go.RowKit Go.Proofs.YtmhomdohhihlcaaW.PrintWords Go.Proofs.YtmhomdohhihlcaaW.PrintLast Go.Proofs.YtmhomdohhihlcaaW.PrintMore
set_option maxRecDepth 100000 in
theorem qcK.calls6 (A0 : Option Addr) (c0 : Nat) (l0 : List Int) (A1 : Option Addr) (c1 n1 : Nat) (A2 : Option Addr) (c2 n2 : Nat) (a3 a4 : Int) (w : World) (hr0 : Kd.C (Kd.int .i64) w A0 l0.length l0) (hl : l0.length ≤ 6) :
  Calls Try.prog 78 #[.agg #[.slice A0 l0.length c0, .slice A1 n1 c1, .slice A2 n2 c2, .int .i64 a3, .int .i64 a4]] w fun e w' => e = .returned (.agg (ar6 l0).toArray) ∧ Below w.heap.size w w' := by
 have hu := Try.underlying111
 have hu2 := Try.underlying39
 have hu3 := Try.underlying115
 have HL := qaa.mk hl
 have HR0 := qaa.mk hr0
 clear hr0 hl
 go_enter Try.func78, Try.ntmps78
 go_wp2
 go_region_law (refine step_copy_splice rfl (.tmp 4) (.tmp 7) 37 37 rfl 3 Try.underlying37 (by kernel_rfl) (some ⟨w.heap.size + 1 + 1, 0, none⟩) A0 6 6 l0.length c0 rfl rfl (w.heap.size + 1 + 1) 0 (ar6 []) 115 ?c1 (l0.map (Value.int .i64)) (qti HL.out) ?c2 ?c3 (qtj l0) (w.heap.size + 2) _ (Below.refl _ _) (Nat.le_refl _) ?_; (case c1 => exact qae (by have h := qgR (((w.alloc (.cells #[.slice A0 l0.length c0, .slice A1 n1 c1, .slice A2 n2 c2, .int .i64 a3, .int .i64 a4] 111)).alloc (.cells (ar6 []).toArray 115))) (.cells (ar6 []).toArray 115); simp only [World.size_alloc] at h; exact h)); (case c2 => exact fun h0 => ⟨rfl, qi8 HR0.out (by repeat (first | exact Below.refl _ _ | apply qbC | apply qag)) h0⟩); (case c3 => simpa [ar6] using HL.out); intro w4 hg4 hb4)
 have HG := qaa.mk (show Is6 w4 (w.heap.size + 1 + 1) l0 by have h := hg4; unfold Hid at h; rw [qpN l0 HL.out] at h; exact h)
 have HZ : Is6 w4 (w.heap.size + 1) [] := (hb4.block (w.heap.size + 1) (by omega)).trans (qae (qab (by have h := qgR (w.alloc (.cells #[.slice A0 l0.length c0, .slice A1 n1 c1, .slice A2 n2 c2, .int .i64 a3, .int .i64 a4] 111)) (.cells (ar6 []).toArray 115); simp only [World.size_alloc] at h; exact h) _))
 have HZ := qaa.mk HZ
 have HB := qaa.mk (show Below w.heap.size w w4 from (qbC (qag (qag (qag (Below.refl w.heap.size w) _) _) _)).trans (hb4.mono (by omega)))
 clear hg4 hb4
 obtain ⟨g0, g1, g2, g3, g4, g5⟩ := HG.out.cells
 obtain ⟨z0, z1, z2, z3, z4, z5⟩ := HZ.out.cells
 obtain ⟨f0, f1, f2, f3, f4, f5⟩ := HZ.out.frozen
 go_wp2
 refine bodyPost_ret (results_cell_row rfl _ _ (w.heap.size + 1) 115 (ar6 l0).toArray (0, 0) _ rfl (HZ.out.put6 l0) Try.underlying115 rfl (by kernel_rfl)) rfl ?_
 refine ⟨rfl, ?_⟩
 have h1 : w.heap.size ≤ w.heap.size + 1 := by omega
 repeat (with_reducible first | exact HB.out | refine qaf ?_ h1)
def qcK.f (l0_0 l0_1 l0_2 : List Int) (a0_3 a0_4 : Int) : Option (Int × Int × Int × Int × Int × Int) :=
 if l0_0.length ≤ 6 then some (rd l0_0 0, rd l0_0 1, rd l0_0 2, rd l0_0 3, rd l0_0 4, rd l0_0 5) else none
theorem qcK.calls (A0_0 : Option Addr) (c0_0 : Nat) (l0_0 : List Int) (A0_1 : Option Addr) (c0_1 : Nat) (l0_1 : List Int) (A0_2 : Option Addr) (c0_2 : Nat) (l0_2 : List Int) (a0_3 a0_4 r1 r2 r3 r4 r5 r6 : Int) (w : World)
  (qef : Kd.C (Kd.int .i64) w A0_0 l0_0.length l0_0) (qem : l0_0.length ≤ c0_0) (qeg : Kd.C (Kd.int .i64) w A0_1 l0_1.length l0_1) (qen : l0_1.length ≤ c0_1) (qeh : Kd.C (Kd.int .i64) w A0_2 l0_2.length l0_2) (qeo : l0_2.length ≤ c0_2)
  (h : qcK.f l0_0 l0_1 l0_2 a0_3 a0_4 = some (r1, r2, r3, r4, r5, r6)) :
  Calls Try.prog 78 #[.agg #[.slice A0_0 l0_0.length c0_0, .slice A0_1 l0_1.length c0_1, .slice A0_2 l0_2.length c0_2, .int .i64 a0_3, .int .i64 a0_4]] w fun e w' =>
   e = .returned (.agg #[.int .i64 r1, .int .i64 r2, .int .i64 r3, .int .i64 r4, .int .i64 r5, .int .i64 r6]) ∧ Below w.heap.size w w' := by
 unfold qcK.f at h
 by_cases hv : l0_0.length ≤ 6
 ·
  rw [if_pos hv] at h
  injection h with h
  simp only [Prod.mk.injEq] at h
  obtain ⟨rfl, rfl, rfl, rfl, rfl, rfl⟩ := h
  exact qcK.calls6 A0_0 c0_0 l0_0 A0_1 c0_1 l0_1.length A0_2 c0_2 l0_2.length a0_3 a0_4 w qef hv
 · rw [if_neg hv] at h; exact absurd h (by simp)
end Go.Proofs.Ytmhomdohhihlcaa.P
